/- Part 3 of the proof of GliderLasts: what the functions compute. No condition. -/
import Derived.Test.YtmhaiihjfgfaoaaGqGliderLasts2
import Derived.Test.YtmhaiihjfgfaoaaGqGliderLasts1
section
/- A span that is moved for a dive. -/
namespace Go.Proofs.Ytmhaiihjfgfaoaa.Gl
open Go.RowKit Go.Shelf Go.Proofs.YtmhaiihjfgfaoaaW.PrintWords Go.Proofs.YtmhaiihjfgfaoaaW.PrintLast Go.Proofs.YtmhaiihjfgfaoaaW.PrintMore Go.Proofs.Ytmhaiihjfgfaoaa.Pr Go.Proofs.YtmhaiihjfgfaoaaW.Round
set_option linter.unusedVariables false
set_option linter.unusedSimpArgs false
attribute [local go_sem] max2_int min2_int max_two min_two max_four
/-- Down and up to whole numbers of a million. -/
def downM (x : Int) : Int := x / 1000000
def upM (x : Int) : Int := -((-x) / 1000000)
/-- A span that is moved by a speed and a current, for a dive. -/
def shiftI (dive : Int) (a : S27) (speed : Int) (u : S27) : S27 := ⟨a.f0 + downM ((speed + 1000 * u.f0) * dive), a.f1 + upM ((speed + 1000 * u.f1) * dive)⟩
theorem mul_abs {a b m n : Int} (h0 : -m ≤ a) (h1 : a ≤ m) (h2 : 0 ≤ b) (h3 : b ≤ n) (hm : 0 ≤ m) : -(m * n) ≤ a * b ∧ a * b ≤ m * n := by
  have k1 := Int.mul_le_mul_of_nonneg_right h1 h2
  have k2 := Int.mul_le_mul_of_nonneg_left h3 hm
  have k3 := Int.mul_le_mul_of_nonneg_right h0 h2
  rw [Int.neg_mul] at k3
  omega
theorem tdm (X : Int) : X = 1000000 * Int.tdiv X 1000000 + Int.tmod X 1000000 ∧ (0 ≤ X → 0 ≤ Int.tmod X 1000000 ∧ Int.tmod X 1000000 < 1000000) ∧ (X < 0 → -1000000 < Int.tmod X 1000000 ∧ Int.tmod X 1000000 ≤ 0) := by
  refine ⟨(Int.mul_tdiv_add_tmod X 1000000).symm, fun h => ?_, fun h => ?_⟩
  · rw [Int.tmod_eq_emod_of_nonneg h]
    omega
  · have e : X = -(-X) := by omega
    rw [e, Int.neg_tmod, Int.tmod_eq_emod_of_nonneg (show 0 ≤ -X by omega)]
    omega
theorem ret_span {a b c d : Int} (h : a = c) (h2 : b = d) : Ending.returned (.agg #[.int .i64 a, .int .i64 b]) = Ending.returned (.agg #[.int .i64 c, .int .i64 d]) := by rw [h, h2]
set_option maxRecDepth 100000 in
set_option maxHeartbeats 4000000 in
theorem shift_any (b : Nat) (s : Sea) (v : Veh) (a : S27) (speed : Int) (u : S27) (w : World) (hT : TripAt w b s v) (hV : VehN v) (ha0 : -1099511627776 ≤ a.f0 ∧ a.f0 ≤ 1099511627776) (ha1 : -1099511627776 ≤ a.f1 ∧ a.f1 ≤ 1099511627776) (hs0 : -5000000 ≤ speed ∧ speed ≤ 5000000) (hu0 : -5000 ≤ u.f0 ∧ u.f0 ≤ 5000) (hu1 : -5000 ≤ u.f1 ∧ u.f1 ≤ 5000) :
    Calls Try.prog 131 #[.pointer (some ⟨b, 0, none⟩), .agg #[.int .i64 a.f0, .int .i64 a.f1], .int .i64 speed, .agg #[.int .i64 u.f0, .int .i64 u.f1]] w (RetB (.agg #[.int .i64 (shiftI v.dive a speed u).f0, .int .i64 (shiftI v.dive a speed u).f1]) w) := by
  have hu27 := Try.underlying27
  obtain ⟨A7, c7, A8, c8, hB, _⟩ := hT
  have hd := hV.dive
  have m0 := mul_abs (a := speed + 1000 * u.f0) (b := v.dive) (m := 10000000) (n := 131072) (by omega) (by omega) (by omega) (by omega) (by omega)
  have m1 := mul_abs (a := speed + 1000 * u.f1) (b := v.dive) (m := 10000000) (n := 131072) (by omega) (by omega) (by omega) (by omega) (by omega)
  clear hV
  have HR : Hid (shiftI v.dive a speed u = ⟨a.f0 + downM ((speed + 1000 * u.f0) * v.dive), a.f1 + upM ((speed + 1000 * u.f1) * v.dive)⟩) := Lib.hid rfl
  go_enter Try.func131, Try.ntmps131
  go_wp2_with fail
  have mT := hB
  clear hB
  have hl_T := blk_lt mT
  have m5 : Blk (((w.alloc (.cells #[.int .i64 a.f0, .int .i64 a.f1] 27)).alloc (.cells #[.int .i64 u.f0, .int .i64 u.f1] 27)).alloc (.cells #[.int .i64 0, .int .i64 0] 27)) (w.heap.size) #[.int .i64 a.f0, .int .i64 a.f1] 27 := (blk_alloc (blk_alloc (by have h_ := blk_new w (.cells #[.int .i64 a.f0, .int .i64 a.f1] 27); first | exact h_ | (simp only [World.size_alloc] at h_; exact h_)) _) _)
  have m7 : Blk (((w.alloc (.cells #[.int .i64 a.f0, .int .i64 a.f1] 27)).alloc (.cells #[.int .i64 u.f0, .int .i64 u.f1] 27)).alloc (.cells #[.int .i64 0, .int .i64 0] 27)) (w.heap.size + 1) #[.int .i64 u.f0, .int .i64 u.f1] 27 := (blk_alloc (by have h_ := blk_new (w.alloc (.cells #[.int .i64 a.f0, .int .i64 a.f1] 27)) (.cells #[.int .i64 u.f0, .int .i64 u.f1] 27); first | exact h_ | (simp only [World.size_alloc] at h_; exact h_)) _)
  have m8 : Blk (((w.alloc (.cells #[.int .i64 a.f0, .int .i64 a.f1] 27)).alloc (.cells #[.int .i64 u.f0, .int .i64 u.f1] 27)).alloc (.cells #[.int .i64 0, .int .i64 0] 27)) (w.heap.size + 1 + 1) #[.int .i64 0, .int .i64 0] 27 := (by have h_ := blk_new ((w.alloc (.cells #[.int .i64 a.f0, .int .i64 a.f1] 27)).alloc (.cells #[.int .i64 u.f0, .int .i64 u.f1] 27)) (.cells #[.int .i64 0, .int .i64 0] 27); first | exact h_ | (simp only [World.size_alloc] at h_; exact h_))
  replace mT : Blk (((w.alloc (.cells #[.int .i64 a.f0, .int .i64 a.f1] 27)).alloc (.cells #[.int .i64 u.f0, .int .i64 u.f1] 27)).alloc (.cells #[.int .i64 0, .int .i64 0] 27)) b #[.int .i64 s.nx, .int .i64 s.ny, .int .i64 s.cell, .int .i64 s.slot, .int .i64 s.slots, .int .i64 s.layers, .int .i64 s.most, .slice A7 s.shores.length c7, .slice A8 s.currents.length c8, .int .i64 v.speed, .int .i64 v.dive, .int .i64 v.use.f0, .int .i64 v.use.f1, .int .i64 v.drift.f0, .int .i64 v.drift.f1, .int .i64 v.reserve] 110 := (blk_alloc (blk_alloc (blk_alloc mT _) _) _)
  have mB : Below w.heap.size w (((w.alloc (.cells #[.int .i64 a.f0, .int .i64 a.f1] 27)).alloc (.cells #[.int .i64 u.f0, .int .i64 u.f1] 27)).alloc (.cells #[.int .i64 0, .int .i64 0] 27)) := (below_alloc (below_alloc (below_alloc (Below.refl w.heap.size w) _) _) _)
  have hsz_ : w.heap.size ≤ w.heap.size := Nat.le_refl _
  generalize hW_ : (((w.alloc (.cells #[.int .i64 a.f0, .int .i64 a.f1] 27)).alloc (.cells #[.int .i64 u.f0, .int .i64 u.f1] 27)).alloc (.cells #[.int .i64 0, .int .i64 0] 27)) = W1 at mT m5 m7 m8 mB ⊢
  clear hW_
  generalize hg5 : w.heap.size = g5 at m5 m7 m8 ⊢
  have hn_T_5 : b ≠ g5 := by omega
  have hn_5_T : g5 ≠ b := hn_T_5.symm
  have hG5 : w.heap.size ≤ g5 := by omega
  generalize hg7 : g5 + 1 = g7 at m7 m8 ⊢
  have hn_T_7 : b ≠ g7 := by omega
  have hn_5_7 : g5 ≠ g7 := by omega
  have hn_7_T : g7 ≠ b := hn_T_7.symm
  have hn_7_5 : g7 ≠ g5 := hn_5_7.symm
  have hG7 : w.heap.size ≤ g7 := by omega
  generalize hg8 : g7 + 1 = g8 at m8 ⊢
  have hn_T_8 : b ≠ g8 := by omega
  have hn_5_8 : g5 ≠ g8 := by omega
  have hn_7_8 : g7 ≠ g8 := by omega
  have hn_8_T : g8 ≠ b := hn_T_8.symm
  have hn_8_5 : g8 ≠ g5 := hn_5_8.symm
  have hn_8_7 : g8 ≠ g7 := hn_7_8.symm
  have hG8 : w.heap.size ≤ g8 := by omega
  clear hsz_ hl_T
  try clear hg8
  try clear hg7
  try clear hg5
  have hs_W1 : w.heap.size ≤ W1.heap.size := mB.size
  replace mT := blk_drew mT
  replace m5 := blk_drew m5
  replace m7 := blk_drew m7
  replace m8 := blk_drew m8
  replace mB := below_drew1 mB
  have wf0_1 : wrap64 (1000 * u.f0) = 1000 * u.f0 := by unfold wrap64; omega
  have wf0_2 : wrap64 (speed + 1000 * u.f0) = speed + 1000 * u.f0 := by unfold wrap64; omega
  have wf0_3 : wrap64 ((speed + 1000 * u.f0) * v.dive) = (speed + 1000 * u.f0) * v.dive := by unfold wrap64; omega
  have wf1_1 : wrap64 (1000 * u.f1) = 1000 * u.f1 := by unfold wrap64; omega
  have wf1_2 : wrap64 (speed + 1000 * u.f1) = speed + 1000 * u.f1 := by unfold wrap64; omega
  have wf1_3 : wrap64 ((speed + 1000 * u.f1) * v.dive) = (speed + 1000 * u.f1) * v.dive := by unfold wrap64; omega
  refine start_ (n := 25) (S := fun w' => w'.cell? ⟨g7, 0, none⟩ = some (.int .i64 u.f0) ∧ w'.cell? ⟨g7, 1, none⟩ = some (.int .i64 u.f1) ∧ w'.cell? ⟨g5, 0, none⟩ = some (.int .i64 a.f0) ∧ w'.cell? ⟨g5, 1, none⟩ = some (.int .i64 a.f1) ∧ w'.cell? ⟨b, 10, none⟩ = some (.int .i64 v.dive)) (ds := [24]) #[false, false, false, false, false, false, false, false, false, false, false, false, false, false, false, false, false, false, false, false, false, false, false, false, false] (by kernel_rfl) rfl rfl ⟨((blk_cell m7 0).trans rfl), ((blk_cell m7 1).trans rfl), ((blk_cell m5 0).trans rfl), ((blk_cell m5 1).trans rfl), ((blk_cell mT 10).trans rfl)⟩ (fun hHeld => ?_)
  generalize hWd : World.drew _ = Wx at mB mT m5 m7 m8 hHeld ⊢
  clear hWd
  refine pure_ (i := 0) (N := some 12) (v := ?_) (a' := ?_) #[true, false, false, false, false, false, false, false, false, false, false, false, false, false, false, false, false, false, false, false, false, false, false, false, false] rfl rfl (by kernel_rfl) (fun _ _ _ h => h) (Or.inl ⟨by rfl, ?_⟩) ?_ ?_
  rotate_left
  · intro w'
    go_simp
    with_reducible rfl
  rotate_left
  · simp only [Act.put, List.setIfInBounds_toArray, List.set_cons_zero, List.set_cons_succ, i64_w, i32_w]
    rfl
  refine pure_ (i := 1) (N := some 13) (v := ?_) (a' := ?_) #[true, true, false, false, false, false, false, false, false, false, false, false, false, false, false, false, false, false, false, false, false, false, false, false, false] rfl rfl (by kernel_rfl) (fun _ _ _ h => h) (Or.inl ⟨by rfl, ?_⟩) ?_ ?_
  rotate_left
  · intro w'
    go_simp
    with_reducible rfl
  rotate_left
  · simp only [Act.put, List.setIfInBounds_toArray, List.set_cons_zero, List.set_cons_succ, i64_w, i32_w]
    rfl
  refine pure_ (i := 5) (N := some 17) (v := ?_) (a' := ?_) #[true, true, false, false, false, true, false, false, false, false, false, false, false, false, false, false, false, false, false, false, false, false, false, false, false] rfl rfl (by kernel_rfl) (fun _ _ _ h => h) (Or.inl ⟨by rfl, ?_⟩) ?_ ?_
  rotate_left
  · intro w'
    go_simp
    with_reducible rfl
  rotate_left
  · simp only [Act.put, List.setIfInBounds_toArray, List.set_cons_zero, List.set_cons_succ, i64_w, i32_w]
    rfl
  refine pure_ (i := 6) (N := some 18) (v := ?_) (a' := ?_) #[true, true, false, false, false, true, true, false, false, false, false, false, false, false, false, false, false, false, false, false, false, false, false, false, false] rfl rfl (by kernel_rfl) (fun _ _ _ h => h) (Or.inl ⟨by rfl, ?_⟩) ?_ ?_
  rotate_left
  · intro w'
    go_simp
    with_reducible rfl
  rotate_left
  · simp only [Act.put, List.setIfInBounds_toArray, List.set_cons_zero, List.set_cons_succ, i64_w, i32_w]
    rfl
  refine pure_ (i := 7) (N := some 19) (v := ?_) (a' := ?_) #[true, true, false, false, false, true, true, true, false, false, false, false, false, false, false, false, false, false, false, false, false, false, false, false, false] rfl rfl (by kernel_rfl) (fun _ _ _ h => h) (Or.inl ⟨by rfl, ?_⟩) ?_ ?_
  rotate_left
  · intro w'
    go_simp
    with_reducible rfl
  rotate_left
  · simp only [Act.put, List.setIfInBounds_toArray, List.set_cons_zero, List.set_cons_succ, i64_w, i32_w]
    rfl
  refine pure_ (i := 8) (N := some 20) (v := ?_) (a' := ?_) #[true, true, false, false, false, true, true, true, true, false, false, false, false, false, false, false, false, false, false, false, false, false, false, false, false] rfl rfl (by kernel_rfl) (fun _ _ _ h => h) (Or.inl ⟨by rfl, ?_⟩) ?_ ?_
  rotate_left
  · intro w'
    go_simp
    with_reducible rfl
  rotate_left
  · simp only [Act.put, List.setIfInBounds_toArray, List.set_cons_zero, List.set_cons_succ, i64_w, i32_w]
    rfl
  refine pure_ (i := 11) (N := some 23) (v := ?_) (a' := ?_) #[true, true, false, false, false, true, true, true, true, false, false, true, false, false, false, false, false, false, false, false, false, false, false, false, false] rfl rfl (by kernel_rfl) (fun _ _ _ h => h) (Or.inl ⟨by rfl, ?_⟩) ?_ ?_
  rotate_left
  · intro w'
    go_simp
    with_reducible rfl
  rotate_left
  · simp only [Act.put, List.setIfInBounds_toArray, List.set_cons_zero, List.set_cons_succ, i64_w, i32_w]
    rfl
  refine pure_ (i := 12) (N := some 24) (v := ?_) (a' := ?_) #[true, true, false, false, false, true, true, true, true, false, false, true, true, false, false, false, false, false, false, false, false, false, false, false, false] rfl rfl (by kernel_rfl) (fun _ _ _ h => h) (Or.inl ⟨by rfl, ?_⟩) ?_ ?_
  rotate_left
  · intro w'
    go_simp
    with_reducible rfl
  rotate_left
  · simp only [Act.put, List.setIfInBounds_toArray, List.set_cons_zero, List.set_cons_succ, i64_w, i32_w]
    rfl
  refine pure_ (i := 16) (N := some 28) (v := ?_) (a' := ?_) #[true, true, false, false, false, true, true, true, true, false, false, true, true, false, false, false, true, false, false, false, false, false, false, false, false] rfl rfl (by kernel_rfl) (fun _ _ _ h => h) (Or.inl ⟨by rfl, ?_⟩) ?_ ?_
  rotate_left
  · intro w'
    go_simp
    with_reducible rfl
  rotate_left
  · simp only [Act.put, List.setIfInBounds_toArray, List.set_cons_zero, List.set_cons_succ, i64_w, i32_w]
    rfl
  refine pure_ (i := 17) (N := some 29) (v := ?_) (a' := ?_) #[true, true, false, false, false, true, true, true, true, false, false, true, true, false, false, false, true, true, false, false, false, false, false, false, false] rfl rfl (by kernel_rfl) (fun _ _ _ h => h) (Or.inl ⟨by rfl, ?_⟩) ?_ ?_
  rotate_left
  · intro w'
    go_simp
    with_reducible rfl
  rotate_left
  · simp only [Act.put, List.setIfInBounds_toArray, List.set_cons_zero, List.set_cons_succ, i64_w, i32_w]
    rfl
  refine pure_ (i := 18) (N := some 30) (v := ?_) (a' := ?_) #[true, true, false, false, false, true, true, true, true, false, false, true, true, false, false, false, true, true, true, false, false, false, false, false, false] rfl rfl (by kernel_rfl) (fun _ _ _ h => h) (Or.inl ⟨by rfl, ?_⟩) ?_ ?_
  rotate_left
  · intro w'
    go_simp
    with_reducible rfl
  rotate_left
  · simp only [Act.put, List.setIfInBounds_toArray, List.set_cons_zero, List.set_cons_succ, i64_w, i32_w]
    rfl
  refine pure_ (i := 19) (N := some 31) (v := ?_) (a' := ?_) #[true, true, false, false, false, true, true, true, true, false, false, true, true, false, false, false, true, true, true, true, false, false, false, false, false] rfl rfl (by kernel_rfl) (fun _ _ _ h => h) (Or.inl ⟨by rfl, ?_⟩) ?_ ?_
  rotate_left
  · intro w'
    go_simp
    with_reducible rfl
  rotate_left
  · simp only [Act.put, List.setIfInBounds_toArray, List.set_cons_zero, List.set_cons_succ, i64_w, i32_w]
    rfl
  refine take_ (i := 2) (N := some 14) (v := ?_) (a' := ?_) #[true, true, true, false, false, true, true, true, true, false, false, true, true, false, false, false, true, true, true, true, false, false, false, false, false] rfl rfl (by kernel_rfl) (fun _ _ _ h => h) (Or.inl ⟨by rfl, ?_⟩) hHeld ?_ ?_
  rotate_left
  · rintro w' ⟨s0, s1, s2, s3, s4⟩
    go_simp
    with_reducible rfl
  rotate_left
  · simp only [Act.put, List.setIfInBounds_toArray, List.set_cons_zero, List.set_cons_succ, i64_w, i32_w]
    rfl
  refine pure_ (i := 3) (N := some 15) (v := ?_) (a' := ?_) #[true, true, true, true, false, true, true, true, true, false, false, true, true, false, false, false, true, true, true, true, false, false, false, false, false] rfl rfl (by kernel_rfl) (fun _ _ _ h => h) (Or.inl ⟨by rfl, ?_⟩) ?_ ?_
  rotate_left
  · intro w'
    go_simp
    with_reducible rfl
  rotate_left
  · simp only [Act.put, List.setIfInBounds_toArray, List.set_cons_zero, List.set_cons_succ, i64_w, i32_w]
    rfl
  refine pure_ (i := 4) (N := some 16) (v := ?_) (a' := ?_) #[true, true, true, true, true, true, true, true, true, false, false, true, true, false, false, false, true, true, true, true, false, false, false, false, false] rfl rfl (by kernel_rfl) (fun _ _ _ h => h) (Or.inl ⟨by rfl, ?_⟩) ?_ ?_
  rotate_left
  · intro w'
    go_simp
    with_reducible rfl
  rotate_left
  · simp only [Act.put, List.setIfInBounds_toArray, List.set_cons_zero, List.set_cons_succ, i64_w, i32_w]
    rfl
  refine take_ (i := 9) (N := some 21) (v := ?_) (a' := ?_) #[true, true, true, true, true, true, true, true, true, true, false, true, true, false, false, false, true, true, true, true, false, false, false, false, false] rfl rfl (by kernel_rfl) (fun _ _ _ h => h) (Or.inl ⟨by rfl, ?_⟩) hHeld ?_ ?_
  rotate_left
  · rintro w' ⟨s0, s1, s2, s3, s4⟩
    go_simp
    with_reducible rfl
  rotate_left
  · simp only [Act.put, List.setIfInBounds_toArray, List.set_cons_zero, List.set_cons_succ, i64_w, i32_w]
    rfl
  refine pure_ (i := 10) (N := some 22) (v := ?_) (a' := ?_) #[true, true, true, true, true, true, true, true, true, true, true, true, true, false, false, false, true, true, true, true, false, false, false, false, false] rfl rfl (by kernel_rfl) (fun _ _ _ h => h) (Or.inl ⟨by rfl, ?_⟩) ?_ ?_
  rotate_left
  · intro w'
    go_simp
    with_reducible rfl
  rotate_left
  · simp only [Act.put, List.setIfInBounds_toArray, List.set_cons_zero, List.set_cons_succ, i64_w, i32_w]
    rfl
  refine take_ (i := 13) (N := some 25) (v := ?_) (a' := ?_) #[true, true, true, true, true, true, true, true, true, true, true, true, true, true, false, false, true, true, true, true, false, false, false, false, false] rfl rfl (by kernel_rfl) (fun _ _ _ h => h) (Or.inl ⟨by rfl, ?_⟩) hHeld ?_ ?_
  rotate_left
  · rintro w' ⟨s0, s1, s2, s3, s4⟩
    go_simp
    with_reducible rfl
  rotate_left
  · simp only [Act.put, List.setIfInBounds_toArray, List.set_cons_zero, List.set_cons_succ, i64_w, i32_w]
    rfl
  refine pure_ (i := 14) (N := some 26) (v := ?_) (a' := ?_) #[true, true, true, true, true, true, true, true, true, true, true, true, true, true, true, false, true, true, true, true, false, false, false, false, false] rfl rfl (by kernel_rfl) (fun _ _ _ h => h) (Or.inl ⟨by rfl, ?_⟩) ?_ ?_
  rotate_left
  · intro w'
    go_simp
    with_reducible rfl
  rotate_left
  · simp only [Act.put, List.setIfInBounds_toArray, List.set_cons_zero, List.set_cons_succ, i64_w, i32_w]
    rfl
  refine pure_ (i := 15) (N := some 27) (v := ?_) (a' := ?_) #[true, true, true, true, true, true, true, true, true, true, true, true, true, true, true, true, true, true, true, true, false, false, false, false, false] rfl rfl (by kernel_rfl) (fun _ _ _ h => h) (Or.inl ⟨by rfl, ?_⟩) ?_ ?_
  rotate_left
  · intro w'
    go_simp
    with_reducible rfl
  rotate_left
  · simp only [Act.put, List.setIfInBounds_toArray, List.set_cons_zero, List.set_cons_succ, i64_w, i32_w]
    rfl
  refine take_ (i := 20) (N := some 32) (v := ?_) (a' := ?_) #[true, true, true, true, true, true, true, true, true, true, true, true, true, true, true, true, true, true, true, true, true, false, false, false, false] rfl rfl (by kernel_rfl) (fun _ _ _ h => h) (Or.inl ⟨by rfl, ?_⟩) hHeld ?_ ?_
  rotate_left
  · rintro w' ⟨s0, s1, s2, s3, s4⟩
    go_simp
    with_reducible rfl
  rotate_left
  · simp only [Act.put, List.setIfInBounds_toArray, List.set_cons_zero, List.set_cons_succ, i64_w, i32_w]
    rfl
  refine pure_ (i := 21) (N := some 33) (v := ?_) (a' := ?_) #[true, true, true, true, true, true, true, true, true, true, true, true, true, true, true, true, true, true, true, true, true, true, false, false, false] rfl rfl (by kernel_rfl) (fun _ _ _ h => h) (Or.inl ⟨by rfl, ?_⟩) ?_ ?_
  rotate_left
  · intro w'
    go_simp
    with_reducible rfl
  rotate_left
  · simp only [Act.put, List.setIfInBounds_toArray, List.set_cons_zero, List.set_cons_succ, i64_w, i32_w]
    rfl
  refine pure_ (i := 22) (N := some 34) (v := ?_) (a' := ?_) #[true, true, true, true, true, true, true, true, true, true, true, true, true, true, true, true, true, true, true, true, true, true, true, false, false] rfl rfl (by kernel_rfl) (fun _ _ _ h => h) (Or.inl ⟨by rfl, ?_⟩) ?_ ?_
  rotate_left
  · intro w'
    go_simp
    with_reducible rfl
  rotate_left
  · simp only [Act.put, List.setIfInBounds_toArray, List.set_cons_zero, List.set_cons_succ, i64_w, i32_w]
    rfl
  refine one_ (i := 23) (N := some 9) #[true, true, true, true, true, true, true, true, true, true, true, true, true, true, true, true, true, true, true, true, true, true, true, true, false] rfl rfl (by kernel_rfl) (by decide) (fun K hK => ?_)
  refine value_ (w1 := ?_) (v := ?_) (by rfl) rfl ?_ ?_
  rotate_left 2
  · go_simp
    constructor
    · rfl
    · rfl
  refine hK.out _ _ ⟨((blk_cell (blk_alloc m7 (.cells #[.int .i64 0, .int .i64 0] 27)) 0).trans rfl), ((blk_cell (blk_alloc m7 (.cells #[.int .i64 0, .int .i64 0] 27)) 1).trans rfl), ((blk_cell (blk_alloc m5 (.cells #[.int .i64 0, .int .i64 0] 27)) 0).trans rfl), ((blk_cell (blk_alloc m5 (.cells #[.int .i64 0, .int .i64 0] 27)) 1).trans rfl), ((blk_cell (blk_alloc mT (.cells #[.int .i64 0, .int .i64 0] 27)) 10).trans rfl)⟩ (fun hHeld => ?_)
  clear hK K
  refine norm_ (a' := ?_) ?_ ?_
  rotate_left
  · show Act.put _ (some 9) _ = _
    simp only [Act.put, List.setIfInBounds_toArray, List.set_cons_zero, List.set_cons_succ, i64_w, i32_w]
    rfl
  refine last_ (i := 24) (N := none) #[true, true, true, true, true, true, true, true, true, true, true, true, true, true, true, true, true, true, true, true, true, true, true, true, true] rfl rfl (by kernel_rfl) (by decide) (fun K hK => ?_)
  have hq_ := blk_new Wx (.cells #[.int .i64 0, .int .i64 0] 27)
  have hf0_ := blk_frozen hq_ 0
  have hf1_ := blk_frozen hq_ 1
  have hc0_ := (blk_cell hq_ 0).trans rfl
  have hc1_ := (blk_cell hq_ 1).trans rfl
  refine skip_ (w1 := ?_) (by rfl) rfl ?_ ?_
  rotate_left
  · go_simp
    rfl
  clear hq_ hf0_ hf1_ hc0_ hc1_
  refine hK.out _ _ ?_
  clear hK K
  refine done_ (by kernel_rfl) ?_
  clear wf0_1 wf0_2 wf0_3
  clear wf1_1 wf1_2 wf1_3
  have hs_Wx : w.heap.size ≤ Wx.heap.size := mB.size
  have hl_T := blk_lt mT
  have hl_5 := blk_lt m5
  have hl_7 := blk_lt m7
  have hl_8 := blk_lt m8
  have m9 : Blk (Wx.alloc (.cells #[.int .i64 ((speed + 1000 * u.f0) * v.dive), .int .i64 ((speed + 1000 * u.f1) * v.dive)] 27)) (Wx.heap.size) #[.int .i64 ((speed + 1000 * u.f0) * v.dive), .int .i64 ((speed + 1000 * u.f1) * v.dive)] 27 := (by have h_ := blk_new Wx (.cells #[.int .i64 ((speed + 1000 * u.f0) * v.dive), .int .i64 ((speed + 1000 * u.f1) * v.dive)] 27); first | exact h_ | (simp only [World.size_alloc] at h_; exact h_))
  replace mT : Blk (Wx.alloc (.cells #[.int .i64 ((speed + 1000 * u.f0) * v.dive), .int .i64 ((speed + 1000 * u.f1) * v.dive)] 27)) b #[.int .i64 s.nx, .int .i64 s.ny, .int .i64 s.cell, .int .i64 s.slot, .int .i64 s.slots, .int .i64 s.layers, .int .i64 s.most, .slice A7 s.shores.length c7, .slice A8 s.currents.length c8, .int .i64 v.speed, .int .i64 v.dive, .int .i64 v.use.f0, .int .i64 v.use.f1, .int .i64 v.drift.f0, .int .i64 v.drift.f1, .int .i64 v.reserve] 110 := (blk_alloc mT _)
  replace m5 : Blk (Wx.alloc (.cells #[.int .i64 ((speed + 1000 * u.f0) * v.dive), .int .i64 ((speed + 1000 * u.f1) * v.dive)] 27)) g5 #[.int .i64 a.f0, .int .i64 a.f1] 27 := (blk_alloc m5 _)
  replace m7 : Blk (Wx.alloc (.cells #[.int .i64 ((speed + 1000 * u.f0) * v.dive), .int .i64 ((speed + 1000 * u.f1) * v.dive)] 27)) g7 #[.int .i64 u.f0, .int .i64 u.f1] 27 := (blk_alloc m7 _)
  replace m8 : Blk (Wx.alloc (.cells #[.int .i64 ((speed + 1000 * u.f0) * v.dive), .int .i64 ((speed + 1000 * u.f1) * v.dive)] 27)) g8 #[.int .i64 0, .int .i64 0] 27 := (blk_alloc m8 _)
  replace mB : Below w.heap.size w (Wx.alloc (.cells #[.int .i64 ((speed + 1000 * u.f0) * v.dive), .int .i64 ((speed + 1000 * u.f1) * v.dive)] 27)) := (below_alloc mB _)
  have hsz_ : w.heap.size ≤ Wx.heap.size := hs_Wx
  generalize hW_ : (Wx.alloc (.cells #[.int .i64 ((speed + 1000 * u.f0) * v.dive), .int .i64 ((speed + 1000 * u.f1) * v.dive)] 27)) = W2 at mT m5 m7 m8 m9 mB ⊢
  clear hW_
  generalize hg9 : Wx.heap.size = g9 at m9 ⊢
  have hn_T_9 : b ≠ g9 := by omega
  have hn_5_9 : g5 ≠ g9 := by omega
  have hn_7_9 : g7 ≠ g9 := by omega
  have hn_8_9 : g8 ≠ g9 := by omega
  have hn_9_T : g9 ≠ b := hn_T_9.symm
  have hn_9_5 : g9 ≠ g5 := hn_5_9.symm
  have hn_9_7 : g9 ≠ g7 := hn_7_9.symm
  have hn_9_8 : g9 ≠ g8 := hn_8_9.symm
  have hG9 : w.heap.size ≤ g9 := by omega
  clear hsz_ hl_T hl_5 hl_7 hl_8
  try clear hg9
  have hs_W2 : w.heap.size ≤ W2.heap.size := mB.size
  have t0 := tdm ((speed + 1000 * u.f0) * v.dive)
  have t1 := tdm ((speed + 1000 * u.f1) * v.dive)
  generalize (speed + 1000 * u.f0) * v.dive = X at *
  generalize (speed + 1000 * u.f1) * v.dive = Y at *
  generalize hq0 : Int.tdiv X 1000000 = q0 at *
  generalize hr0 : Int.tmod X 1000000 = r0 at *
  generalize hq1 : Int.tdiv Y 1000000 = q1 at *
  generalize hr1 : Int.tmod Y 1000000 = r1 at *
  have bq0 : -10000000000000 ≤ q0 ∧ q0 ≤ 10000000000000 := by omega
  have bq1 : -10000000000000 ≤ q1 ∧ q1 ≤ 10000000000000 := by omega
  have T0 := Lib.hid t0
  have T1 := Lib.hid t1
  clear t0 t1
  have c5_0 := (blk_cell m5 0).trans rfl
  have c5_1 := (blk_cell m5 1).trans rfl
  have c9_0 := (blk_cell m9 0).trans rfl
  have c9_1 := (blk_cell m9 1).trans rfl
  have c8_0 := (blk_cell m8 0).trans rfl
  have c8_1 := (blk_cell m8 1).trans rfl
  have f8_0 := blk_frozen m8 0
  have f8_1 := blk_frozen m8 1
  go_wp2_with fail
  go_quiet (fail)
  clear hq0 hq1
  go_wp2
  all_goals
    have t0 := T0.out
    have t1 := T1.out
    try simp only [bne_iff_ne, ne_eq, bne_eq_false_iff_eq] at *
    exact bodyPost_ret (results_cell_row rfl _ _ g8 27 #[_, _] (0, 0) _ rfl (blk_put (blk_put (blk_drewN m8 _) 0 _ rfl) 1 _ rfl) Try.underlying27 rfl (by kernel_rfl)) rfl ⟨ret_span (by rw [HR.out]; unfold downM; dsimp only; omega) (by rw [HR.out]; unfold upM; dsimp only; omega), (((pw_below_drewN mB) _).setCell hG8 _).setCell hG8 _⟩
end Go.Proofs.Ytmhaiihjfgfaoaa.Gl
end
section
/- The cells that a box touches, one after another. -/
namespace Go.Proofs.Ytmhaiihjfgfaoaa.Gl
open Go.RowKit Go.Shelf Go.Proofs.YtmhaiihjfgfaoaaW.PrintWords Go.Proofs.YtmhaiihjfgfaoaaW.PrintLast Go.Proofs.YtmhaiihjfgfaoaaW.PrintMore Go.Proofs.Ytmhaiihjfgfaoaa.Pr Go.Proofs.YtmhaiihjfgfaoaaW.Round
set_option linter.unusedVariables false
set_option linter.unusedSimpArgs false
attribute [local go_sem] max2_int min2_int max_two min_two max_four
attribute [local go_sem] Oper.semAt_some
def rowT (nx i0 : Int) (n : Nat) (k : Int) : List Int := (List.range n).map fun j : Nat => k * nx + (i0 + (j : Int))
def allT (nx i0 : Int) (n : Nat) (k0 : Int) (m : Nat) : List Int := (List.range m).flatMap fun r : Nat => rowT nx i0 n (k0 + (r : Int))
def uptoT (nx i0 : Int) (n : Nat) (k0 : Int) (q j : Nat) : List Int := allT nx i0 n k0 q ++ rowT nx i0 j (k0 + (q : Int))
theorem uptoT_zero (nx i0 : Int) (n : Nat) (k0 : Int) : uptoT nx i0 n k0 0 0 = [] := rfl
theorem uptoT_row (nx i0 : Int) (n : Nat) (k0 : Int) (q : Nat) : uptoT nx i0 n k0 q 0 = allT nx i0 n k0 q := by unfold uptoT rowT; simp
theorem uptoT_succ (nx i0 : Int) (n : Nat) (k0 : Int) (q j : Nat) : uptoT nx i0 n k0 q (j + 1) = uptoT nx i0 n k0 q j ++ [(k0 + (q : Int)) * nx + (i0 + (j : Int))] := by
  unfold uptoT rowT
  rw [List.range_succ, List.map_append, List.map_singleton, List.append_assoc]
theorem allT_succ (nx i0 : Int) (n : Nat) (k0 : Int) (q : Nat) : allT nx i0 n k0 (q + 1) = uptoT nx i0 n k0 q n := by
  unfold uptoT allT
  rw [List.range_succ, List.flatMap_append, List.flatMap_singleton]
theorem allT_pre (nx i0 : Int) (n : Nat) (k0 : Int) : ∀ (d q : Nat), allT nx i0 n k0 q <+: allT nx i0 n k0 (q + d)
  | 0, q => List.prefix_refl _
  | d + 1, q => by
    refine (allT_pre nx i0 n k0 d q).trans ?_
    rw [show q + (d + 1) = (q + d) + 1 by omega, allT_succ]
    exact List.prefix_append _ _
theorem uptoT_pre {nx i0 : Int} {n : Nat} {k0 : Int} {m q j : Nat} (hq : q < m) (hj : j ≤ n) : uptoT nx i0 n k0 q j <+: allT nx i0 n k0 m := by
  have h1 : uptoT nx i0 n k0 q j <+: uptoT nx i0 n k0 q n := by
    unfold uptoT
    refine (List.prefix_append_right_inj _).2 ?_
    unfold rowT
    refine List.IsPrefix.map _ ?_
    rw [show n = j + (n - j) by omega, List.range_add]
    exact List.prefix_append _ _
  rw [← allT_succ] at h1
  have h2 := allT_pre nx i0 n k0 (m - (q + 1)) (q + 1)
  rw [show q + 1 + (m - (q + 1)) = m by omega] at h2
  exact h1.trans h2
/-- The number of a cell. -/
abbrev CellN (s : Sea) := { c : Int // 0 ≤ c ∧ c < s.nx * s.ny }
/-- The cells that a box touches. -/
def touchL (s : Sea) (x : S31) : List Int := allT s.nx (numI s.cell x.f0 s.nx).1 ((numI s.cell x.f0 s.nx).2 + 1 - (numI s.cell x.f0 s.nx).1).toNat (numI s.cell x.f1 s.ny).1 ((numI s.cell x.f1 s.ny).2 + 1 - (numI s.cell x.f1 s.ny).1).toNat
def AllT (s : Sea) (x : S31) (xs : List (CellN s)) : Prop := xs.map Subtype.val = touchL s x
def PreT (s : Sea) (x : S31) (xs : List (CellN s)) : Prop := xs.map Subtype.val <+: touchL s x
theorem numI_in {c : Int} {a : S27} {most : Int} (hc : 1 ≤ c) (h0 : 0 ≤ a.f0) (h1 : 0 ≤ a.f1) (hm : 1 ≤ most) : (0 ≤ (numI c a most).1 ∧ (numI c a most).1 ≤ most - 1) ∧ (0 ≤ (numI c a most).2 ∧ (numI c a most).2 ≤ most - 1) := by
  have d0 := div_in h0 hc
  have d1 := div_in h1 hc
  unfold numI firstI
  dsimp only
  split <;> omega
/-- A box in the sea. -/
def InSea (s : Sea) (x : S31) : Prop := (0 ≤ x.f0.f0 ∧ x.f0.f0 ≤ 1099511627776) ∧ (0 ≤ x.f0.f1 ∧ x.f0.f1 ≤ 1099511627776) ∧ (0 ≤ x.f1.f0 ∧ x.f1.f0 ≤ 1099511627776) ∧ (0 ≤ x.f1.f1 ∧ x.f1.f1 ≤ 1099511627776)
set_option maxHeartbeats 1000000 in
theorem touched_any (b : Nat) (x : S31) (w : World) : Calls Try.prog 118 #[.pointer (some ⟨b, 0, none⟩), .agg #[.int .i64 x.f0.f0, .int .i64 x.f0.f1, .int .i64 x.f1.f0, .int .i64 x.f1.f1]] w fun e w' => e = .returned (.func (.func 135) #[] #[.pointer (some ⟨w.heap.size, 0, none⟩), .pointer (some ⟨w.heap.size + 1, 0, none⟩)]) ∧ w' = (w.alloc (.cells #[.pointer (some ⟨b, 0, none⟩)] 104)).alloc (.cells #[.int .i64 x.f0.f0, .int .i64 x.f0.f1, .int .i64 x.f1.f0, .int .i64 x.f1.f1] 31) := by
  have hu31 := Try.underlying31
  go_enter Try.func118, Try.ntmps118
  go_wp2
  go_ret
  exact ⟨rfl, rfl⟩
theorem row_in {nx ny k : Int} (hx : 1 ≤ nx) (h0 : 0 ≤ k) (h1 : k ≤ ny - 1) : 0 ≤ k * nx ∧ k * nx ≤ nx * ny - nx := by
  refine ⟨Int.mul_nonneg h0 (by omega), ?_⟩
  have h := Int.mul_le_mul_of_nonneg_right h1 (show 0 ≤ nx by omega)
  rw [Int.sub_mul, Int.one_mul, Int.mul_comm ny nx] at h
  exact h

/-- What the iterator reads. -/
def Env (w0 : World) (bp bx b : Nat) (x : S31) (W : World) : Prop := Below w0.heap.size w0 W ∧ Blk W bp #[.pointer (some ⟨b, 0, none⟩)] 104 ∧ Blk W bx #[.int .i64 x.f0.f0, .int .i64 x.f0.f1, .int .i64 x.f1.f0, .int .i64 x.f1.f1] 31
theorem Env.below {w0 : World} {bp bx b : Nat} {x : S31} {W W1 : World} (h : Env w0 bp bx b x W) (hb : Below W.heap.size W W1) : Env w0 bp bx b x W1 := ⟨below_step h.1 hb, h.2.1.below hb, h.2.2.below hb⟩
set_option maxRecDepth 100000 in
set_option maxHeartbeats 4000000 in
theorem touched1_in (n : Nat) (hn : 1 ≤ n) (l bp bx : Nat) (w0 : World) (b : Nat) (s : Sea) (v : Veh) (x : S31) (hT : TripAt w0 b s v) (hS : SeaN s) (hx : InSea s x) (Kp : World → World → Prop) (hKp : ∀ A B, Kp A B → Env w0 bp bx b x A → Env w0 bp bx b x B) (J Jx : List (CellN s) → World → Prop)
    (hY : ∀ pre c W, J pre W → pre.length < (touchL s x).length → YieldAt Fence.wide (n - 1) Try.prog l #[.int .i64 c.1] W fun e W' =>
      (e = .returned (.bool true) ∧ J (pre ++ [c]) W' ∧ Kp W W') ∨ (e = .returned (.bool false) ∧ Jx (pre ++ [c]) W'))
    (hJa : ∀ (f : List (CellN s)) W W', J f W → Below W.heap.size W W' → J f W')
    (W : World) (hE : Env w0 bp bx b x W) (h0 : J [] W) :
    CallsIn Fence.wide n Try.prog 135 #[.func (.yield l) #[] #[], .pointer (some ⟨bp, 0, none⟩), .pointer (some ⟨bx, 0, none⟩)] W fun e W' => (∃ v, e = .returned v) ∧
      ((∃ xs, AllT s x xs ∧ J xs W') ∨ (∃ pre, PreT s x pre ∧ Jx pre W')) := by
  have hu31 := Try.underlying31
  have hu27 := Try.underlying27
  obtain ⟨⟨x0, x1⟩, ⟨x2, x3⟩, ⟨x4, x5⟩, x6, x7⟩ := hx
  have hcl := hS.cell
  have hnx := hS.nx
  have hny := hS.ny
  have gI := numI_in (c := s.cell) (a := x.f0) (most := s.nx) (by omega) x0 x2 hnx.1
  have gK := numI_in (c := s.cell) (a := x.f1) (most := s.ny) (by omega) x4 x6 hny.1
  have kN := fun W (h : TripAt W b s v) => numbers_any b s v x.f0 s.nx W h hS x0 x1 x2 x3 hnx.1 hnx.2
  have kM := fun W (h : TripAt W b s v) => numbers_any b s v x.f1 s.ny W h hS x4 x5 x6 x7 hny.1 hny.2
  have hAll : touchL s x = allT s.nx (numI s.cell x.f0 s.nx).1 ((numI s.cell x.f0 s.nx).2 + 1 - (numI s.cell x.f0 s.nx).1).toNat (numI s.cell x.f1 s.ny).1 ((numI s.cell x.f1 s.ny).2 + 1 - (numI s.cell x.f1 s.ny).1).toNat := rfl
  generalize numI s.cell x.f0 s.nx = I at *
  generalize numI s.cell x.f1 s.ny = K at *
  obtain ⟨i0, i1⟩ := I
  obtain ⟨k0, k1⟩ := K
  dsimp only at gI gK kN kM hAll
  obtain ⟨⟨i2, i3⟩, i4, i5⟩ := gI
  obtain ⟨⟨k2, k3⟩, k4, k5⟩ := gK
  have HAll := Lib.hid hAll
  clear hAll hcl
  have hE0 := hE
  obtain ⟨hb0, mP, mX⟩ := hE0
  obtain ⟨A7, c7, A8, c8, mT, _⟩ := hT.below hb0
  clear hb0
  refine callsIn_of_wp Try.func135 rfl trivial ?_ rfl
  simp only [Try.ntmps135, List.size_toArray, List.length_cons, List.length_nil, Nat.reduceAdd, Nat.reduceSub, Array.replicate_succ, Array.replicate_zero, List.push_toArray, List.append_toArray, List.nil_append, List.cons_append]
  gi_wp2_with fail
  refine wpIn_only (wpIn_wide.2 ?_)
  replace mT := blk_drew mT
  replace mP := blk_drew mP
  replace mX := blk_drew mX
  replace h0 := hJa _ _ _ h0 (below_drew1 (Below.refl _ _))
  replace hE := hE.below (below_drew1 (Below.refl _ _))
  refine start_ (n := 14) (S := fun w' => w'.cell? ⟨bp, 0, none⟩ = some (.pointer (some ⟨b, 0, none⟩)) ∧ w'.cell? ⟨bx, 0, none⟩ = some (.int .i64 x.f0.f0) ∧ w'.cell? ⟨bx, 1, none⟩ = some (.int .i64 x.f0.f1) ∧ w'.cell? ⟨b, 0, none⟩ = some (.int .i64 s.nx)) (ds := []) #[false, false, false, false, false, false, false, false, false, false, false, false, false, false] (by kernel_rfl) rfl rfl ⟨((blk_cell mP 0).trans rfl), ((blk_cell mX 0).trans rfl), ((blk_cell mX 1).trans rfl), ((blk_cell mT 0).trans rfl)⟩ (fun hHeld => ?_)
  generalize hWd : World.drew _ = Wx at *
  clear hWd
  refine pure_ (i := 1) (N := some 12) (v := ?_) (a' := ?_) #[false, true, false, false, false, false, false, false, false, false, false, false, false, false] rfl rfl (by kernel_rfl) (fun _ _ _ h => h) (Or.inl ⟨by rfl, ?_⟩) ?_ ?_
  rotate_left
  · intro w'
    go_simp
    with_reducible rfl
  rotate_left
  · simp only [Act.put, List.setIfInBounds_toArray, List.set_cons_zero, List.set_cons_succ, i64_w, i32_w]
    rfl
  refine take_ (i := 0) (N := some 11) (v := ?_) (a' := ?_) #[true, true, false, false, false, false, false, false, false, false, false, false, false, false] rfl rfl (by kernel_rfl) (fun _ _ _ h => h) (Or.inl ⟨by rfl, ?_⟩) hHeld ?_ ?_
  rotate_left
  · rintro w' ⟨s0, s1, s2, s3⟩
    go_simp
    with_reducible rfl
  rotate_left
  · simp only [Act.put, List.setIfInBounds_toArray, List.set_cons_zero, List.set_cons_succ, i64_w, i32_w]
    rfl
  refine take_ (i := 2) (N := some 13) (v := ?_) (a' := ?_) #[true, true, true, false, false, false, false, false, false, false, false, false, false, false] rfl rfl (by kernel_rfl) (fun _ _ _ h => h) (Or.inl ⟨by rfl, ?_⟩) hHeld ?_ ?_
  rotate_left
  · rintro w' ⟨s0, s1, s2, s3⟩
    go_simp
    with_reducible rfl
  rotate_left
  · simp only [Act.put, List.setIfInBounds_toArray, List.set_cons_zero, List.set_cons_succ, i64_w, i32_w]
    rfl
  refine take_ (i := 3) (N := some 14) (v := ?_) (a' := ?_) #[true, true, true, true, false, false, false, false, false, false, false, false, false, false] rfl rfl (by kernel_rfl) (fun _ _ _ h => h) (Or.inl ⟨by rfl, ?_⟩) hHeld ?_ ?_
  rotate_left
  · rintro w' ⟨s0, s1, s2, s3⟩
    go_simp
    with_reducible rfl
  rotate_left
  · simp only [Act.put, List.setIfInBounds_toArray, List.set_cons_zero, List.set_cons_succ, i64_w, i32_w]
    rfl
  refine pure_ (i := 4) (N := some 15) (v := ?_) (a' := ?_) #[true, true, true, true, true, false, false, false, false, false, false, false, false, false] rfl rfl (by kernel_rfl) (fun _ _ _ h => h) (Or.inl ⟨by rfl, ?_⟩) ?_ ?_
  rotate_left
  · intro w'
    go_simp
    with_reducible rfl
  rotate_left
  · simp only [Act.put, List.setIfInBounds_toArray, List.set_cons_zero, List.set_cons_succ, i64_w, i32_w]
    rfl
  refine pure_ (i := 5) (N := some 16) (v := ?_) (a' := ?_) #[true, true, true, true, true, true, false, false, false, false, false, false, false, false] rfl rfl (by kernel_rfl) (fun _ _ _ h => h) (Or.inl ⟨by rfl, ?_⟩) ?_ ?_
  rotate_left
  · intro w'
    go_simp
    with_reducible rfl
  rotate_left
  · simp only [Act.put, List.setIfInBounds_toArray, List.set_cons_zero, List.set_cons_succ, i64_w, i32_w]
    rfl
  refine pure_ (i := 6) (N := some 17) (v := ?_) (a' := ?_) #[true, true, true, true, true, true, true, false, false, false, false, false, false, false] rfl rfl (by kernel_rfl) (fun _ _ _ h => h) (Or.inl ⟨by rfl, ?_⟩) ?_ ?_
  rotate_left
  · intro w'
    go_simp
    with_reducible rfl
  rotate_left
  · simp only [Act.put, List.setIfInBounds_toArray, List.set_cons_zero, List.set_cons_succ, i64_w, i32_w]
    rfl
  refine take_ (i := 7) (N := some 18) (v := ?_) (a' := ?_) #[true, true, true, true, true, true, true, true, false, false, false, false, false, false] rfl rfl (by kernel_rfl) (fun _ _ _ h => h) (Or.inl ⟨by rfl, ?_⟩) hHeld ?_ ?_
  rotate_left
  · rintro w' ⟨s0, s1, s2, s3⟩
    go_simp
    with_reducible rfl
  rotate_left
  · simp only [Act.put, List.setIfInBounds_toArray, List.set_cons_zero, List.set_cons_succ, i64_w, i32_w]
    rfl
  refine one_ (i := 8) (N := some 19) #[true, true, true, true, true, true, true, true, true, false, false, false, false, false] rfl rfl (by kernel_rfl) (by decide) (fun K hK => ?_)
  have hcon_ := kN Wx (hT.below hE.1)
  refine goes_ Try.func136 (by kernel_rfl) rfl #[.pointer (some ⟨b, 0, none⟩), .agg #[.int .i64 x.f0.f0, .int .i64 x.f0.f1], .int .i64 s.nx] (by rfl) rfl rfl (by simp only [List.map_toArray, List.map_cons, List.map_nil]; rfl) ?_
  with_reducible refine (hcon_).mono ?_
  rintro e W1 ⟨rfl, hb2⟩
  refine ⟨_, rfl, ?_⟩
  clear hcon_
  replace mT := blk_below mT hb2
  replace mP := blk_below mP hb2
  replace mX := blk_below mX hb2
  replace h0 := hJa _ _ _ h0 hb2
  replace hE := hE.below hb2
  clear hb2
  refine hK.out _ _ ⟨((blk_cell mP 0).trans rfl), ((blk_cell mX 0).trans rfl), ((blk_cell mX 1).trans rfl), ((blk_cell mT 0).trans rfl)⟩ (fun hHeld => ?_)
  clear hK K
  refine norm_ (a' := ?_) ?_ ?_
  rotate_left
  · show Act.put _ (some 19) _ = _
    simp only [Act.put, List.setIfInBounds_toArray, List.set_cons_zero, List.set_cons_succ, i64_w, i32_w]
    rfl
  refine pure_ (i := 9) (N := some 10) (v := ?_) (a' := ?_) #[true, true, true, true, true, true, true, true, true, true, false, false, false, false] rfl rfl (by kernel_rfl) (fun _ _ _ h => h) (Or.inl ⟨by rfl, ?_⟩) ?_ ?_
  rotate_left
  · intro w'
    go_simp
    with_reducible rfl
  rotate_left
  · simp only [Act.put, List.setIfInBounds_toArray, List.set_cons_zero, List.set_cons_succ, i64_w, i32_w]
    rfl
  refine pure_ (i := 10) (N := some 20) (v := ?_) (a' := ?_) #[true, true, true, true, true, true, true, true, true, true, true, false, false, false] rfl rfl (by kernel_rfl) (fun _ _ _ h => h) (Or.inl ⟨by rfl, ?_⟩) ?_ ?_
  rotate_left
  · intro w'
    go_simp
    with_reducible rfl
  rotate_left
  · simp only [Act.put, List.setIfInBounds_toArray, List.set_cons_zero, List.set_cons_succ, i64_w, i32_w]
    rfl
  refine pure_ (i := 11) (N := some 21) (v := ?_) (a' := ?_) #[true, true, true, true, true, true, true, true, true, true, true, true, false, false] rfl rfl (by kernel_rfl) (fun _ _ _ h => h) (Or.inl ⟨by rfl, ?_⟩) ?_ ?_
  rotate_left
  · intro w'
    go_simp
    with_reducible rfl
  rotate_left
  · simp only [Act.put, List.setIfInBounds_toArray, List.set_cons_zero, List.set_cons_succ, i64_w, i32_w]
    rfl
  refine pure_ (i := 12) (N := some 4) (v := ?_) (a' := ?_) #[true, true, true, true, true, true, true, true, true, true, true, true, true, false] rfl rfl (by kernel_rfl) (fun _ _ _ h => h) (Or.inl ⟨by rfl, ?_⟩) ?_ ?_
  rotate_left
  · intro w'
    go_simp
    with_reducible rfl
  rotate_left
  · simp only [Act.put, List.setIfInBounds_toArray, List.set_cons_zero, List.set_cons_succ, i64_w, i32_w]
    rfl
  refine pure_ (i := 13) (N := some 5) (v := ?_) (a' := ?_) #[true, true, true, true, true, true, true, true, true, true, true, true, true, true] rfl rfl (by kernel_rfl) (fun _ _ _ h => h) (Or.inl ⟨by rfl, ?_⟩) ?_ ?_
  rotate_left
  · intro w'
    go_simp
    with_reducible rfl
  rotate_left
  · simp only [Act.put, List.setIfInBounds_toArray, List.set_cons_zero, List.set_cons_succ, i64_w, i32_w]
    rfl
  refine done_ (by kernel_rfl) ?_
  refine onlyN_normal ?_
  gi_wp2_with fail
  refine wpIn_only (wpIn_wide.2 ?_)
  replace mT := blk_drew mT
  replace mP := blk_drew mP
  replace mX := blk_drew mX
  replace h0 := hJa _ _ _ h0 (below_drew1 (Below.refl _ _))
  replace hE := hE.below (below_drew1 (Below.refl _ _))
  refine start_ (n := 14) (S := fun w' => w'.cell? ⟨bp, 0, none⟩ = some (.pointer (some ⟨b, 0, none⟩)) ∧ w'.cell? ⟨bx, 2, none⟩ = some (.int .i64 x.f1.f0) ∧ w'.cell? ⟨bx, 3, none⟩ = some (.int .i64 x.f1.f1) ∧ w'.cell? ⟨b, 1, none⟩ = some (.int .i64 s.ny)) (ds := []) #[false, false, false, false, false, false, false, false, false, false, false, false, false, false] (by kernel_rfl) rfl rfl ⟨((blk_cell mP 0).trans rfl), ((blk_cell mX 2).trans rfl), ((blk_cell mX 3).trans rfl), ((blk_cell mT 1).trans rfl)⟩ (fun hHeld => ?_)
  generalize hWd : World.drew _ = Wx at *
  clear hWd
  refine pure_ (i := 1) (N := some 24) (v := ?_) (a' := ?_) #[false, true, false, false, false, false, false, false, false, false, false, false, false, false] rfl rfl (by kernel_rfl) (fun _ _ _ h => h) (Or.inl ⟨by rfl, ?_⟩) ?_ ?_
  rotate_left
  · intro w'
    go_simp
    with_reducible rfl
  rotate_left
  · simp only [Act.put, List.setIfInBounds_toArray, List.set_cons_zero, List.set_cons_succ, i64_w, i32_w]
    rfl
  refine take_ (i := 0) (N := some 23) (v := ?_) (a' := ?_) #[true, true, false, false, false, false, false, false, false, false, false, false, false, false] rfl rfl (by kernel_rfl) (fun _ _ _ h => h) (Or.inl ⟨by rfl, ?_⟩) hHeld ?_ ?_
  rotate_left
  · rintro w' ⟨s0, s1, s2, s3⟩
    go_simp
    with_reducible rfl
  rotate_left
  · simp only [Act.put, List.setIfInBounds_toArray, List.set_cons_zero, List.set_cons_succ, i64_w, i32_w]
    rfl
  refine take_ (i := 2) (N := some 25) (v := ?_) (a' := ?_) #[true, true, true, false, false, false, false, false, false, false, false, false, false, false] rfl rfl (by kernel_rfl) (fun _ _ _ h => h) (Or.inl ⟨by rfl, ?_⟩) hHeld ?_ ?_
  rotate_left
  · rintro w' ⟨s0, s1, s2, s3⟩
    go_simp
    with_reducible rfl
  rotate_left
  · simp only [Act.put, List.setIfInBounds_toArray, List.set_cons_zero, List.set_cons_succ, i64_w, i32_w]
    rfl
  refine take_ (i := 3) (N := some 26) (v := ?_) (a' := ?_) #[true, true, true, true, false, false, false, false, false, false, false, false, false, false] rfl rfl (by kernel_rfl) (fun _ _ _ h => h) (Or.inl ⟨by rfl, ?_⟩) hHeld ?_ ?_
  rotate_left
  · rintro w' ⟨s0, s1, s2, s3⟩
    go_simp
    with_reducible rfl
  rotate_left
  · simp only [Act.put, List.setIfInBounds_toArray, List.set_cons_zero, List.set_cons_succ, i64_w, i32_w]
    rfl
  refine pure_ (i := 4) (N := some 27) (v := ?_) (a' := ?_) #[true, true, true, true, true, false, false, false, false, false, false, false, false, false] rfl rfl (by kernel_rfl) (fun _ _ _ h => h) (Or.inl ⟨by rfl, ?_⟩) ?_ ?_
  rotate_left
  · intro w'
    go_simp
    with_reducible rfl
  rotate_left
  · simp only [Act.put, List.setIfInBounds_toArray, List.set_cons_zero, List.set_cons_succ, i64_w, i32_w]
    rfl
  refine pure_ (i := 5) (N := some 28) (v := ?_) (a' := ?_) #[true, true, true, true, true, true, false, false, false, false, false, false, false, false] rfl rfl (by kernel_rfl) (fun _ _ _ h => h) (Or.inl ⟨by rfl, ?_⟩) ?_ ?_
  rotate_left
  · intro w'
    go_simp
    with_reducible rfl
  rotate_left
  · simp only [Act.put, List.setIfInBounds_toArray, List.set_cons_zero, List.set_cons_succ, i64_w, i32_w]
    rfl
  refine pure_ (i := 6) (N := some 29) (v := ?_) (a' := ?_) #[true, true, true, true, true, true, true, false, false, false, false, false, false, false] rfl rfl (by kernel_rfl) (fun _ _ _ h => h) (Or.inl ⟨by rfl, ?_⟩) ?_ ?_
  rotate_left
  · intro w'
    go_simp
    with_reducible rfl
  rotate_left
  · simp only [Act.put, List.setIfInBounds_toArray, List.set_cons_zero, List.set_cons_succ, i64_w, i32_w]
    rfl
  refine take_ (i := 7) (N := some 30) (v := ?_) (a' := ?_) #[true, true, true, true, true, true, true, true, false, false, false, false, false, false] rfl rfl (by kernel_rfl) (fun _ _ _ h => h) (Or.inl ⟨by rfl, ?_⟩) hHeld ?_ ?_
  rotate_left
  · rintro w' ⟨s0, s1, s2, s3⟩
    go_simp
    with_reducible rfl
  rotate_left
  · simp only [Act.put, List.setIfInBounds_toArray, List.set_cons_zero, List.set_cons_succ, i64_w, i32_w]
    rfl
  refine one_ (i := 8) (N := some 31) #[true, true, true, true, true, true, true, true, true, false, false, false, false, false] rfl rfl (by kernel_rfl) (by decide) (fun K hK => ?_)
  have hcon_ := kM Wx (hT.below hE.1)
  refine goes_ Try.func136 (by kernel_rfl) rfl #[.pointer (some ⟨b, 0, none⟩), .agg #[.int .i64 x.f1.f0, .int .i64 x.f1.f1], .int .i64 s.ny] (by rfl) rfl rfl (by simp only [List.map_toArray, List.map_cons, List.map_nil]; rfl) ?_
  with_reducible refine (hcon_).mono ?_
  rintro e W2 ⟨rfl, hb2⟩
  refine ⟨_, rfl, ?_⟩
  clear hcon_
  replace mT := blk_below mT hb2
  replace mP := blk_below mP hb2
  replace mX := blk_below mX hb2
  replace h0 := hJa _ _ _ h0 hb2
  replace hE := hE.below hb2
  clear hb2
  refine hK.out _ _ ⟨((blk_cell mP 0).trans rfl), ((blk_cell mX 2).trans rfl), ((blk_cell mX 3).trans rfl), ((blk_cell mT 1).trans rfl)⟩ (fun hHeld => ?_)
  clear hK K
  refine norm_ (a' := ?_) ?_ ?_
  rotate_left
  · show Act.put _ (some 31) _ = _
    simp only [Act.put, List.setIfInBounds_toArray, List.set_cons_zero, List.set_cons_succ, i64_w, i32_w]
    rfl
  refine pure_ (i := 9) (N := some 22) (v := ?_) (a' := ?_) #[true, true, true, true, true, true, true, true, true, true, false, false, false, false] rfl rfl (by kernel_rfl) (fun _ _ _ h => h) (Or.inl ⟨by rfl, ?_⟩) ?_ ?_
  rotate_left
  · intro w'
    go_simp
    with_reducible rfl
  rotate_left
  · simp only [Act.put, List.setIfInBounds_toArray, List.set_cons_zero, List.set_cons_succ, i64_w, i32_w]
    rfl
  refine pure_ (i := 10) (N := some 32) (v := ?_) (a' := ?_) #[true, true, true, true, true, true, true, true, true, true, true, false, false, false] rfl rfl (by kernel_rfl) (fun _ _ _ h => h) (Or.inl ⟨by rfl, ?_⟩) ?_ ?_
  rotate_left
  · intro w'
    go_simp
    with_reducible rfl
  rotate_left
  · simp only [Act.put, List.setIfInBounds_toArray, List.set_cons_zero, List.set_cons_succ, i64_w, i32_w]
    rfl
  refine pure_ (i := 11) (N := some 33) (v := ?_) (a' := ?_) #[true, true, true, true, true, true, true, true, true, true, true, true, false, false] rfl rfl (by kernel_rfl) (fun _ _ _ h => h) (Or.inl ⟨by rfl, ?_⟩) ?_ ?_
  rotate_left
  · intro w'
    go_simp
    with_reducible rfl
  rotate_left
  · simp only [Act.put, List.setIfInBounds_toArray, List.set_cons_zero, List.set_cons_succ, i64_w, i32_w]
    rfl
  refine pure_ (i := 12) (N := some 6) (v := ?_) (a' := ?_) #[true, true, true, true, true, true, true, true, true, true, true, true, true, false] rfl rfl (by kernel_rfl) (fun _ _ _ h => h) (Or.inl ⟨by rfl, ?_⟩) ?_ ?_
  rotate_left
  · intro w'
    go_simp
    with_reducible rfl
  rotate_left
  · simp only [Act.put, List.setIfInBounds_toArray, List.set_cons_zero, List.set_cons_succ, i64_w, i32_w]
    rfl
  refine pure_ (i := 13) (N := some 7) (v := ?_) (a' := ?_) #[true, true, true, true, true, true, true, true, true, true, true, true, true, true] rfl rfl (by kernel_rfl) (fun _ _ _ h => h) (Or.inl ⟨by rfl, ?_⟩) ?_ ?_
  rotate_left
  · intro w'
    go_simp
    with_reducible rfl
  rotate_left
  · simp only [Act.put, List.setIfInBounds_toArray, List.set_cons_zero, List.set_cons_succ, i64_w, i32_w]
    rfl
  refine done_ (by kernel_rfl) ?_
  refine onlyN_normal ?_
  clear mT mP mX kN kM
  gi_wp2
  gi_loopw [8] (fun i wr => ∃ (q : Nat) (pre : List (CellN s)), q ≤ (k1 + 1 - k0).toNat ∧ i = .int .i64 (k0 + (q : Int)) ∧ Hid (pre.map Subtype.val = uptoT s.nx i0 (i1 + 1 - i0).toNat k0 q 0) ∧ Env w0 bp bx b x wr ∧ J pre wr) (fun i _ => (k1 + 1 - intOf i).toNat)
  case atStart => exact ⟨0, [], Nat.zero_le _, by simp, Lib.hid (by rw [uptoT_zero]; rfl), hE, h0⟩
  case round =>
    clear hE h0
    obtain ⟨q, pre, hq, rfl, HP, hE, hJs⟩ := hrel
    by_cases hlt : k0 + (q : Int) ≤ k1
    · gi_wp2
      gi_loopw [9] (fun i wr2 => ∃ (j : Nat) (pre2 : List (CellN s)), j ≤ (i1 + 1 - i0).toNat ∧ i = .int .i64 (i0 + (j : Int)) ∧ Hid (pre2.map Subtype.val = uptoT s.nx i0 (i1 + 1 - i0).toNat k0 q j) ∧ Env w0 bp bx b x wr2 ∧ J pre2 wr2) (fun i _ => (i1 + 1 - intOf i).toNat)
      case atStart => exact ⟨0, pre, Nat.zero_le _, by simp, HP, hE, hJs⟩
      case round =>
        clear hE hJs
        obtain ⟨j, pre2, hj, rfl, HQ, hE, hJ2⟩ := hrel
        by_cases hjk : i0 + (j : Int) ≤ i1
        · have hlen : pre2.length < (touchL s x).length := by
            have h1 := uptoT_pre (nx := s.nx) (i0 := i0) (k0 := k0) (show q < (k1 + 1 - k0).toNat by omega) (show j + 1 ≤ (i1 + 1 - i0).toNat by omega)
            have h2 := h1.length_le
            rw [uptoT_succ, ← HQ.out, ← HAll.out] at h2
            simp at h2
            omega
          have hr := row_in (ny := s.ny) (k := k0 + (q : Int)) hnx.1 (by omega) (by omega)
          have hxy := mul_in (show 0 ≤ s.nx by omega) hnx.2 (show 0 ≤ s.ny by omega) hny.2
          obtain ⟨fn, tmps, assign, body, hy, hR⟩ := hY pre2 ⟨(k0 + (q : Int)) * s.nx + (i0 + (j : Int)), by omega, by omega⟩ _ hJ2 hlen
          dsimp only at hy
          have hE0 := hE
          obtain ⟨hb0, mP, _⟩ := hE0
          obtain ⟨A7, c7, A8, c8, mT, _⟩ := hT.below hb0
          clear hb0
          have cP := (blk_cell mP 0).trans rfl
          have cT := (blk_cell mT 0).trans rfl
          clear mT mP
          gi_wp2
          refine hR.mono ?_
          rintro e W3 (⟨rfl, hJ3, hk3⟩ | ⟨rfl, hJx3⟩)
          · clear cP cT
            have hE3 := hKp _ _ hk3 hE
            clear hk3 hE
            gi_wp2
            go_roundw
            case rel => exact ⟨j + 1, _, by omega, by simp; omega, Lib.hid (by rw [List.map_append, HQ.out, uptoT_succ]; rfl), hE3, hJ3⟩
            case measure => simp [intOf]; omega
          · gi_wp2
            refine bodyPost_ret (results_none rfl _ _ _) rfl ?_
            refine ⟨⟨_, rfl⟩, .inr ⟨_, ?_, hJx3⟩⟩
            show List.map Subtype.val _ <+: _
            rw [List.map_append, HQ.out, List.map_singleton, ← uptoT_succ, HAll.out]
            exact uptoT_pre (by omega) (by omega)
        · obtain rfl : j = (i1 + 1 - i0).toNat := by omega
          gi_wp2
          go_roundw
          case rel => exact ⟨q + 1, pre2, by omega, by simp; omega, Lib.hid (by rw [HQ.out, uptoT_row, ← allT_succ]), hE, hJ2⟩
          case measure => simp [intOf]; omega
    · obtain rfl : q = (k1 + 1 - k0).toNat := by omega
      gi_wp2
      go_end0
      exact ⟨⟨_, rfl⟩, .inl ⟨pre, by unfold AllT; rw [HAll.out, HP.out, uptoT_row], hJs⟩⟩
end Go.Proofs.Ytmhaiihjfgfaoaa.Gl
end
section
/- Does a box touch a shore? -/
namespace Go.Proofs.Ytmhaiihjfgfaoaa.Gl
open Go.RowKit Go.Shelf Go.Proofs.YtmhaiihjfgfaoaaW.PrintWords Go.Proofs.YtmhaiihjfgfaoaaW.PrintLast Go.Proofs.YtmhaiihjfgfaoaaW.PrintMore Go.Proofs.Ytmhaiihjfgfaoaa.Pr Go.Proofs.YtmhaiihjfgfaoaaW.Round
set_option linter.unusedVariables false
set_option linter.unusedSimpArgs false
attribute [local go_sem] max2_int min2_int max_two min_two max_four
attribute [local go_sem] Oper.semAt_some
theorem Blk.belowH {W W1 : World} {b : Nat} {c : Array Value} {t : TypeId} (h : W.heap[b]? = some (.cells c t (0, 0))) (hb : Below W.heap.size W W1) : Blk W1 b c t := (hb.block b (Array.getElem?_eq_some_iff.1 h).1).trans h
theorem blk_grownO {B b : Nat} {c : Array Value} {t : TypeId} {X Y : World} {row : Option Nat} (hs : Blk X b c t) (hg : X.grownBy Y row) (hr : ∀ r, row = some r → B ≤ r ∧ ∃ o : Obj, X.heap[r]? = some o ∧ o.isCells = false) : Blk Y b c t :=
  (hg.block b (Array.getElem?_eq_some_iff.1 hs).1 (fun e => by obtain ⟨_, o, ho, hc⟩ := hr b e.symm; rw [show X.heap[b]? = _ from hs] at ho; cases ho; cases hc)).trans hs
theorem keepsFrom_below {B : Nat} {W W1 : World} (hb : Below W.heap.size W W1) : KeepsFrom B W W1 :=
  ⟨hb.size, fun k o _ h0 _ => (hb.block k (Array.getElem?_eq_some_iff.1 h0).1).trans h0⟩
theorem blk_ownFrom {β : Type} (B b : Nat) (f : β → Array Value) (t : TypeId) : OwnFrom B (fun s W => Blk W b (f s) t) := fun s X Y row hs hg hr => blk_grownO hs hg hr
theorem ownFrom_pure {β : Type} (B : Nat) (f : β → Prop) : OwnFrom B (fun s (_ : World) => f s) := fun s X Y row hs hg hr => hs
/-- A result in a cell of one number. -/
theorem results_ci {P : Program} {fn : Func} {p : Tmp} {ty : TypeId} {k : IntKind} (h : fn.results = #[.cell p ty]) (tmps : Array Value) (w : World) (g : Nat) (t : TypeId) (v : Value) (hp : tmps.getD p undef = .pointer (some ⟨g, 0, none⟩)) (hg : w.heap[g]? = some (.cells #[v] t (0, 0))) (hu : P.underlying ty = some (.int k)) :
    (results fn tmps).run P w = .ok v w := by
  have hp' : tmps[p]?.getD undef = .pointer (some ⟨g, 0, none⟩) := by simpa using hp
  have hc : w.cell? ⟨g, 0, none⟩ = some v := (blk_cell hg 0).trans rfl
  have hb : (loadVar ty ⟨g, 0, none⟩).run P w = .ok v w := by
    have ha : (isAgg ty).run P w = .ok false w := by
      unfold isAgg
      rw [Sem.run_bind, run_underlying hu w]
      rfl
    unfold loadVar
    rw [Sem.run_bind, ha]
    go_simp
  simp [results, h, hp', asAddr, hb]
/-- The error of a box that touches a shore. -/
def safeE (s : Sea) (x : S31) : Int := if (touchL s x).any (fun c => rdOf false s.shores c) then 21 else 0
theorem safe_no {s : Sea} {x : S31} {xs : List (CellN s)} (h : AllT s x xs) (hf : ∀ c ∈ xs, rdOf false s.shores c.1 = false) : safeE s x = 0 := by
  unfold safeE
  rw [← show xs.map Subtype.val = touchL s x from h, if_neg]
  rw [List.any_map, List.any_eq_true]
  rintro ⟨c, hc, h1⟩
  have h2 := hf c hc
  rw [show rdOf false s.shores c.1 = true from h1] at h2
  cases h2
theorem safe_yes {s : Sea} {x : S31} {ini : List (CellN s)} {last : CellN s} (h : PreT s x (ini ++ [last])) (hl : rdOf false s.shores last.1 = true) : safeE s x = 21 := by
  unfold safeE
  obtain ⟨t, ht⟩ := h
  rw [← ht, if_pos]
  rw [List.map_append, List.any_append, List.any_append]
  simp [hl]
set_option maxRecDepth 100000 in
set_option maxHeartbeats 4000000 in
theorem safe_any (b : Nat) (s : Sea) (v : Veh) (x : S31) (w : World) (hT : TripAt w b s v) (hS : SeaN s) (hx : InSea s x) (hsh : (s.shores.length : Int) = s.nx * s.ny) :
    Calls Try.prog 115 #[.pointer (some ⟨b, 0, none⟩), .agg #[.int .i64 x.f0.f0, .int .i64 x.f0.f1, .int .i64 x.f1.f0, .int .i64 x.f1.f1]] w (RetB (.int .i64 (safeE s x)) w) := by
  have hu31 := Try.underlying31
  have hxy := mul_in (show 0 ≤ s.nx by have := hS.nx; omega) hS.nx.2 (show 0 ≤ s.ny by have := hS.ny; omega) hS.ny.2
  have HSH := Lib.hid hsh
  clear hsh
  refine (callsIn_wide (n := 6)).1 ?_
  refine callsIn_of_wp_marks Try.func115 rfl trivial ?_ rfl
  simp only [Try.ntmps115, List.size_toArray, List.length_cons, List.length_nil, Nat.reduceAdd, Nat.reduceSub, Array.replicate_succ, Array.replicate_zero, List.push_toArray, List.append_toArray, List.nil_append, List.cons_append]
  gi_wp2_with fail
  refine ⟨trivial, (callsIn_wide.2 (touched_any _ _ _)).mono ?_⟩
  rintro e W_ ⟨rfl, rfl⟩
  gi_wp2_with fail
  have m2 : Blk (((((w.alloc (.cells #[.pointer (some ⟨b, 0, none⟩)] 104)).alloc (.cells #[.int .i64 x.f0.f0, .int .i64 x.f0.f1, .int .i64 x.f1.f0, .int .i64 x.f1.f1] 31)).alloc (.cells #[.int .i64 0] 36)).alloc (.cells #[.pointer (some ⟨b, 0, none⟩)] 104)).alloc (.cells #[.int .i64 x.f0.f0, .int .i64 x.f0.f1, .int .i64 x.f1.f0, .int .i64 x.f1.f1] 31)) (w.heap.size) #[.pointer (some ⟨b, 0, none⟩)] 104 := (blk_alloc (blk_alloc (blk_alloc (blk_alloc (by have h_ := blk_new w (.cells #[.pointer (some ⟨b, 0, none⟩)] 104); first | exact h_ | (simp only [World.size_alloc] at h_; exact h_)) _) _) _) _)
  have m3 : Blk (((((w.alloc (.cells #[.pointer (some ⟨b, 0, none⟩)] 104)).alloc (.cells #[.int .i64 x.f0.f0, .int .i64 x.f0.f1, .int .i64 x.f1.f0, .int .i64 x.f1.f1] 31)).alloc (.cells #[.int .i64 0] 36)).alloc (.cells #[.pointer (some ⟨b, 0, none⟩)] 104)).alloc (.cells #[.int .i64 x.f0.f0, .int .i64 x.f0.f1, .int .i64 x.f1.f0, .int .i64 x.f1.f1] 31)) (w.heap.size + 1) #[.int .i64 x.f0.f0, .int .i64 x.f0.f1, .int .i64 x.f1.f0, .int .i64 x.f1.f1] 31 := (blk_alloc (blk_alloc (blk_alloc (by have h_ := blk_new (w.alloc (.cells #[.pointer (some ⟨b, 0, none⟩)] 104)) (.cells #[.int .i64 x.f0.f0, .int .i64 x.f0.f1, .int .i64 x.f1.f0, .int .i64 x.f1.f1] 31); first | exact h_ | (simp only [World.size_alloc] at h_; exact h_)) _) _) _)
  have m4 : Blk (((((w.alloc (.cells #[.pointer (some ⟨b, 0, none⟩)] 104)).alloc (.cells #[.int .i64 x.f0.f0, .int .i64 x.f0.f1, .int .i64 x.f1.f0, .int .i64 x.f1.f1] 31)).alloc (.cells #[.int .i64 0] 36)).alloc (.cells #[.pointer (some ⟨b, 0, none⟩)] 104)).alloc (.cells #[.int .i64 x.f0.f0, .int .i64 x.f0.f1, .int .i64 x.f1.f0, .int .i64 x.f1.f1] 31)) (w.heap.size + 1 + 1) #[.int .i64 0] 36 := (blk_alloc (blk_alloc (by have h_ := blk_new ((w.alloc (.cells #[.pointer (some ⟨b, 0, none⟩)] 104)).alloc (.cells #[.int .i64 x.f0.f0, .int .i64 x.f0.f1, .int .i64 x.f1.f0, .int .i64 x.f1.f1] 31)) (.cells #[.int .i64 0] 36); first | exact h_ | (simp only [World.size_alloc] at h_; exact h_)) _) _)
  have mP : Blk (((((w.alloc (.cells #[.pointer (some ⟨b, 0, none⟩)] 104)).alloc (.cells #[.int .i64 x.f0.f0, .int .i64 x.f0.f1, .int .i64 x.f1.f0, .int .i64 x.f1.f1] 31)).alloc (.cells #[.int .i64 0] 36)).alloc (.cells #[.pointer (some ⟨b, 0, none⟩)] 104)).alloc (.cells #[.int .i64 x.f0.f0, .int .i64 x.f0.f1, .int .i64 x.f1.f0, .int .i64 x.f1.f1] 31)) (w.heap.size + 1 + 1 + 1) #[.pointer (some ⟨b, 0, none⟩)] 104 := (blk_alloc (by have h_ := blk_new (((w.alloc (.cells #[.pointer (some ⟨b, 0, none⟩)] 104)).alloc (.cells #[.int .i64 x.f0.f0, .int .i64 x.f0.f1, .int .i64 x.f1.f0, .int .i64 x.f1.f1] 31)).alloc (.cells #[.int .i64 0] 36)) (.cells #[.pointer (some ⟨b, 0, none⟩)] 104); first | exact h_ | (simp only [World.size_alloc] at h_; exact h_)) _)
  have mX : Blk (((((w.alloc (.cells #[.pointer (some ⟨b, 0, none⟩)] 104)).alloc (.cells #[.int .i64 x.f0.f0, .int .i64 x.f0.f1, .int .i64 x.f1.f0, .int .i64 x.f1.f1] 31)).alloc (.cells #[.int .i64 0] 36)).alloc (.cells #[.pointer (some ⟨b, 0, none⟩)] 104)).alloc (.cells #[.int .i64 x.f0.f0, .int .i64 x.f0.f1, .int .i64 x.f1.f0, .int .i64 x.f1.f1] 31)) (w.heap.size + 1 + 1 + 1 + 1) #[.int .i64 x.f0.f0, .int .i64 x.f0.f1, .int .i64 x.f1.f0, .int .i64 x.f1.f1] 31 := (by have h_ := blk_new ((((w.alloc (.cells #[.pointer (some ⟨b, 0, none⟩)] 104)).alloc (.cells #[.int .i64 x.f0.f0, .int .i64 x.f0.f1, .int .i64 x.f1.f0, .int .i64 x.f1.f1] 31)).alloc (.cells #[.int .i64 0] 36)).alloc (.cells #[.pointer (some ⟨b, 0, none⟩)] 104)) (.cells #[.int .i64 x.f0.f0, .int .i64 x.f0.f1, .int .i64 x.f1.f0, .int .i64 x.f1.f1] 31); first | exact h_ | (simp only [World.size_alloc] at h_; exact h_))
  have mB : Below w.heap.size w (((((w.alloc (.cells #[.pointer (some ⟨b, 0, none⟩)] 104)).alloc (.cells #[.int .i64 x.f0.f0, .int .i64 x.f0.f1, .int .i64 x.f1.f0, .int .i64 x.f1.f1] 31)).alloc (.cells #[.int .i64 0] 36)).alloc (.cells #[.pointer (some ⟨b, 0, none⟩)] 104)).alloc (.cells #[.int .i64 x.f0.f0, .int .i64 x.f0.f1, .int .i64 x.f1.f0, .int .i64 x.f1.f1] 31)) := (below_alloc (below_alloc (below_alloc (below_alloc (below_alloc (Below.refl w.heap.size w) _) _) _) _) _)
  have hsz_ : w.heap.size ≤ w.heap.size := Nat.le_refl _
  generalize hW_ : (((((w.alloc (.cells #[.pointer (some ⟨b, 0, none⟩)] 104)).alloc (.cells #[.int .i64 x.f0.f0, .int .i64 x.f0.f1, .int .i64 x.f1.f0, .int .i64 x.f1.f1] 31)).alloc (.cells #[.int .i64 0] 36)).alloc (.cells #[.pointer (some ⟨b, 0, none⟩)] 104)).alloc (.cells #[.int .i64 x.f0.f0, .int .i64 x.f0.f1, .int .i64 x.f1.f0, .int .i64 x.f1.f1] 31)) = W0 at m2 m3 m4 mP mX mB ⊢
  clear hW_
  generalize hg2 : w.heap.size = g2 at m2 m3 m4 mP mX ⊢
  have hG2 : w.heap.size ≤ g2 := by omega
  generalize hg3 : g2 + 1 = g3 at m3 m4 mP mX ⊢
  have hn_2_3 : g2 ≠ g3 := by omega
  have hn_3_2 : g3 ≠ g2 := hn_2_3.symm
  have hG3 : w.heap.size ≤ g3 := by omega
  generalize hg4 : g3 + 1 = g4 at m4 mP mX ⊢
  have hn_2_4 : g2 ≠ g4 := by omega
  have hn_3_4 : g3 ≠ g4 := by omega
  have hn_4_2 : g4 ≠ g2 := hn_2_4.symm
  have hn_4_3 : g4 ≠ g3 := hn_3_4.symm
  have hG4 : w.heap.size ≤ g4 := by omega
  generalize hgP : g4 + 1 = gP at mP mX ⊢
  have hn_2_P : g2 ≠ gP := by omega
  have hn_3_P : g3 ≠ gP := by omega
  have hn_4_P : g4 ≠ gP := by omega
  have hn_P_2 : gP ≠ g2 := hn_2_P.symm
  have hn_P_3 : gP ≠ g3 := hn_3_P.symm
  have hn_P_4 : gP ≠ g4 := hn_4_P.symm
  have hGP : w.heap.size ≤ gP := by omega
  generalize hgX : gP + 1 = gX at mX ⊢
  have hn_2_X : g2 ≠ gX := by omega
  have hn_3_X : g3 ≠ gX := by omega
  have hn_4_X : g4 ≠ gX := by omega
  have hn_P_X : gP ≠ gX := by omega
  have hn_X_2 : gX ≠ g2 := hn_2_X.symm
  have hn_X_3 : gX ≠ g3 := hn_3_X.symm
  have hn_X_4 : gX ≠ g4 := hn_4_X.symm
  have hn_X_P : gX ≠ gP := hn_P_X.symm
  have hGX : w.heap.size ≤ gX := by omega
  clear hsz_
  try clear hgX
  try clear hgP
  try clear hg4
  try clear hg3
  try clear hg2
  have hs_W0 : w.heap.size ≤ W0.heap.size := mB.size
  refine wpIn_rangeFunc_ownH rfl (by omega) (gf := 135) (lb := #[.pointer (some ⟨gP, 0, none⟩), .pointer (some ⟨gX, 0, none⟩)]) rfl trivial (enters_of Try.func135 (by kernel_rfl) rfl)
    (encs := fun c : CellN s => #[.int .i64 c.1]) (Kp := Below W0.heap.size) (S := AllT s x) (Sp := PreT s x) (N := (touchL s x).length) (w0 := W0)
    (fun l J Jx W hW hJ _ hY h0 => touched1_in 5 (by omega) l gP gX W0 b s v x (hT.below mB) hS hx (Below W0.heap.size) (fun A B h hE => ⟨hE.1.trans h, (h.block gP (blk_lt mP)).trans hE.2.1, (h.block gX (blk_lt mX)).trans hE.2.2⟩) J Jx hY (fun f X Y h hB => hJ f X Y none h ⟨hB.os, hB.tape, hB.output, hB.size, fun k hk _ => hB.block k hk⟩ (fun r e => by cases e)) W ⟨hW, Blk.belowH mP hW, Blk.belowH mX hW⟩ h0) belowK_t (belowK_b (by omega)) (Below.refl _ _) (fun _ => rfl)
    (fun pre W => (∀ c ∈ pre, rdOf false s.shores c.1 = false) ∧ Blk W g2 #[.pointer (some ⟨b, 0, none⟩)] 104 ∧ Blk W g4 #[.int .i64 0] 36 ∧ Below w.heap.size w W)
    (fun c pre W => ∃ ini last, (c = .ret ∧ pre = ini ++ [last] ∧ rdOf false s.shores last.1 = true) ∧ Blk W g4 #[.int .i64 21] 36 ∧ Below w.heap.size w W)
    (OwnFrom.and (ownFrom_pure _ _) (OwnFrom.and (blk_ownFrom _ _ (fun _ => _) _) (OwnFrom.and (blk_ownFrom _ _ (fun _ => _) _) (ownFrom_below (by omega) (by omega)))))
    (fun c pre X Y row hs hg hr => by
      obtain ⟨ini, last, h1, h2, h3⟩ := hs
      exact ⟨ini, last, h1, blk_grownO h2 hg hr, ownFrom_below (by omega) (by omega) () X Y row h3 hg hr⟩)
    ⟨by simp, m2, m4, mB⟩
    (fun c a' W => a' = { tmps := #[.pointer (some ⟨b, 0, none⟩), .agg #[.int .i64 x.f0.f0, .int .i64 x.f0.f1, .int .i64 x.f1.f0, .int .i64 x.f1.f1], .pointer (some ⟨g2, 0, none⟩), .pointer (some ⟨g3, 0, none⟩), .pointer (some ⟨g4, 0, none⟩), .int .i64 c.1, .pointer (some ⟨b, 0, none⟩), .agg #[.int .i64 x.f0.f0, .int .i64 x.f0.f1, .int .i64 x.f1.f0, .int .i64 x.f1.f1], .func (.func 135) #[] #[.pointer (some ⟨gP, 0, none⟩), .pointer (some ⟨gX, 0, none⟩)], .int .i64 c.1, undef, undef, undef, undef, undef, undef, undef, undef], defers := [] })
    (fun c a' s X Y row hs hg hr => hs) ?assign ?body ?done ?stop
  case assign =>
    rintro l pre c W K hI hK
    gi_wp2
    exact hK _ _ ((KeepsOthers.refl W).from _) (Below.refl _ _) hI rfl
  case body =>
    rintro l pre c a' W hlW ⟨r, hr⟩ ⟨h0, h2, h4, hB⟩ rfl hlen
    have hT2 := hT.below hB
    obtain ⟨A7, c7, A8, c8, hBt, q1, q2, _⟩ := hT2
    have hlt : c.1 < (s.shores.length : Int) := by rw [HSH.out]; exact c.2.2
    have hge := c.2.1
    obtain ⟨ad, e_, hx_⟩ := Kd.at_bool q2 c.1 hge hlt
    cases e_
    have c2 := (blk_cell h2 0).trans rfl
    have ct := (blk_cell hBt 7).trans rfl
    clear hBt q1 q2 hr
    cases hv : rdOf false s.shores c.1 with
    | false =>
      rw [hv] at hx_
      have HV := Lib.hid hv
      clear hv
      gi_wp2
      exact ⟨(KeepsOthers.refl W).from _, Below.refl _ _, by
        intro p hp
        rcases List.mem_append.1 hp with hp | hp
        · exact h0 p hp
        · obtain rfl := List.mem_singleton.1 hp
          exact HV.out, h2, h4, hB⟩
    | true =>
      rw [hv] at hx_
      have HV := Lib.hid hv
      clear hv
      have c4 := (blk_cell h4 0).trans rfl
      have f4 := blk_frozen h4 0
      gi_wp2
      exact ⟨(KeepsOthers.setCell _ _ _).from _, pre, c, ⟨rfl, rfl, HV.out⟩, blk_put h4 0 _ rfl, hB.setCell hG4 _⟩
  case done =>
    rintro D_ xs W hD hxs ⟨h0, h2, h4, hB⟩ hK
    have hE := Lib.hid (safe_no hxs h0)
    clear h0
    have c4 := (blk_cell h4 0).trans rfl
    have f4 := blk_frozen h4 0
    gi_wp2
    have hne : D_ ≠ g4 := by have h_ := blk_lt m4; omega
    refine ⟨by simp, .inl ⟨_, _, rfl, run_takeDeferred ((Below.heap_setCell _ _ _ D_ hne).trans hK), ?_⟩⟩
    exact ⟨_, results_ci rfl _ _ g4 36 (.int .i64 0) rfl ((World.putObj_heap_other (fun e => hne e.symm)).trans (blk_put h4 0 _ rfl)) Try.underlying36, by rw [hE.out], (hB.setCell hG4 _).trans (belowK_b (w := w) (Nat.le_refl _) _ D_ _ _ (by have h_ := hB.size; omega) ((Below.heap_setCell _ _ _ D_ hne).trans hK) rfl rfl)⟩
  case stop =>
    rintro D_ c pre W hD hp ⟨ini, last, ⟨rfl, rfl, h1⟩, h4, hB⟩ hK
    have hE := Lib.hid (safe_yes hp h1)
    gi_wp2
    have hne : D_ ≠ g4 := by have h_ := blk_lt m4; omega
    refine ⟨by simp, .inl ⟨_, _, rfl, run_takeDeferred hK, ?_⟩⟩
    exact ⟨_, results_ci rfl _ _ g4 36 (.int .i64 21) rfl ((World.putObj_heap_other (fun e => hne e.symm)).trans h4) Try.underlying36, by rw [hE.out], hB.trans (belowK_b (w := w) (Nat.le_refl _) _ D_ _ _ (by omega) hK rfl rfl)⟩
end Go.Proofs.Ytmhaiihjfgfaoaa.Gl
end
section
-- PRINTED by print.py (a twelfth state) out of the translation. Not trusted: Lean checks it.
namespace Go.Proofs.Ytmhaiihjfgfaoaa.Pr
open Go.RowKit Go.Proofs.YtmhaiihjfgfaoaaW.PrintWords Go.Proofs.YtmhaiihjfgfaoaaW.PrintLast Go.Proofs.YtmhaiihjfgfaoaaW.PrintMore
attribute [local go_sem] max2_int min2_int max_two min_two max_four
set_option linter.unusedVariables false
set_option linter.unusedSimpArgs false

/-! ### glider_hull: function 119 -/
def glider_hull.f (a0_0 : Int) (a0_1 : Int) (a0_2 : Int) (a0_3 : Int) (a1_0 : Int) (a1_1 : Int) (a1_2 : Int) (a1_3 : Int) : Option (Int × Int × Int × Int) := some (mn a0_0 a1_0, mx a0_1 a1_1, mn a0_2 a1_2, mx a0_3 a1_3)
set_option maxHeartbeats 8000000 in
set_option maxRecDepth 100000 in
theorem glider_hull.calls (a0_0 : Int) (a0_1 : Int) (a0_2 : Int) (a0_3 : Int) (a1_0 : Int) (a1_1 : Int) (a1_2 : Int) (a1_3 : Int) (r1 : Int) (r2 : Int) (r3 : Int) (r4 : Int) (w : World) (h : glider_hull.f a0_0 a0_1 a0_2 a0_3 a1_0 a1_1 a1_2 a1_3 = some (r1, r2, r3, r4)) :
    Calls Try.prog 119 #[.agg #[.int .i64 a0_0, .int .i64 a0_1, .int .i64 a0_2, .int .i64 a0_3], .agg #[.int .i64 a1_0, .int .i64 a1_1, .int .i64 a1_2, .int .i64 a1_3]] w fun e w' => e = .returned (.agg #[.int .i64 r1, .int .i64 r2, .int .i64 r3, .int .i64 r4]) ∧ Below w.heap.size w w' := by
  have hu31 := Try.underlying31
  have hu27 := Try.underlying27
  have HB := Aside0.mk (Below.refl w.heap.size w)
  have H : (some (mn a0_0 a1_0, mx a0_1 a1_1, mn a0_2 a1_2, mx a0_3 a1_3)) = some (r1, r2, r3, r4) := h
  clear h
  obtain ⟨ji3, hji3⟩ : ∃ j_ : Int, (mn a0_0 a1_0) = j_ := ⟨_, rfl⟩
  replace H : (some (ji3, mx a0_1 a1_1, mn a0_2 a1_2, mx a0_3 a1_3)) = some (r1, r2, r3, r4) := by first | (rw [hji3] at H; exact H) | (simp only [hji3] at H ⊢; exact H)
  have hji3_ : (if a1_0 < a0_0 then a1_0 else a0_0) = ji3 := hji3
  obtain ⟨ji4, hji4⟩ : ∃ j_ : Int, (mx a0_1 a1_1) = j_ := ⟨_, rfl⟩
  replace H : (some (ji3, ji4, mn a0_2 a1_2, mx a0_3 a1_3)) = some (r1, r2, r3, r4) := by first | (rw [hji4] at H; exact H) | (simp only [hji4] at H ⊢; exact H)
  have hji4_ : (if a0_1 < a1_1 then a1_1 else a0_1) = ji4 := hji4
  obtain ⟨ji5, hji5⟩ : ∃ j_ : Int, (mn a0_2 a1_2) = j_ := ⟨_, rfl⟩
  replace H : (some (ji3, ji4, ji5, mx a0_3 a1_3)) = some (r1, r2, r3, r4) := by first | (rw [hji5] at H; exact H) | (simp only [hji5] at H ⊢; exact H)
  have hji5_ : (if a1_2 < a0_2 then a1_2 else a0_2) = ji5 := hji5
  obtain ⟨ji6, hji6⟩ : ∃ j_ : Int, (mx a0_3 a1_3) = j_ := ⟨_, rfl⟩
  replace H : (some (ji3, ji4, ji5, ji6)) = some (r1, r2, r3, r4) := by first | (rw [hji6] at H; exact H) | (simp only [hji6] at H ⊢; exact H)
  have hji6_ : (if a0_3 < a1_3 then a1_3 else a0_3) = ji6 := hji6
  simp only [Option.some.injEq, Prod.mk.injEq] at H
  obtain ⟨rfl, rfl, rfl, rfl⟩ := H
  go_enter Try.func119, Try.ntmps119
  go_wp2_with (first | ((with_reducible refine gate_dst (N := 2) rfl ?_); refine box_event ?hg (N := 2) ?hd (cs := #[.int .i64 a0_0, .int .i64 a0_1, .int .i64 a0_2, .int .i64 a0_3]) (t := 31) ?hr ?_; (case hd => rfl); (case hg => rfl); (case hr => first | (go_simp; done) | (go_simp; rfl)); intro gb192 hg w7 hbox hb; have n0_ := Aside0.mk (below_step (by repeat (first | (with_reducible first | exact HB.out | apply below_alloc | apply pw_below_drewN | apply below_drew1) | exact HB.out)) hb); have n1_ := Aside0.mk (hbox); have n2_ := Aside0.mk ((by rw [hg]; exact (below_size (by repeat (first | (with_reducible first | exact HB.out | apply below_alloc | apply pw_below_drewN | apply below_drew1) | exact HB.out))) : w.heap.size ≤ gb192)); have n3_ := Aside0.mk ((by rw [hg]; exact (below_size (by repeat (first | (with_reducible first | exact HB.out | apply below_alloc | apply pw_below_drewN | apply below_drew1) | exact HB.out))) : w.heap.size ≤ gb192)); clear HB; have HB := n0_; have BK192 := n1_; have GW192 := n2_; have GE192 := n3_; clear n0_ n1_ n2_ n3_; clear hb hbox hg) | ((with_reducible refine gate_dst (N := 3) rfl ?_); refine box_event ?hg (N := 3) ?hd (cs := #[.int .i64 a1_0, .int .i64 a1_1, .int .i64 a1_2, .int .i64 a1_3]) (t := 31) ?hr ?_; (case hd => rfl); (case hg => rfl); (case hr => first | (go_simp; done) | (go_simp; rfl)); intro gb193 hg w8 hbox hb; have n0_ := Aside0.mk (blk_below (g := gb192) (o := .cells #[.int .i64 a0_0, .int .i64 a0_1, .int .i64 a0_2, .int .i64 a0_3] 31 (0, 0)) (by (with_reducible repeat (first | refine blk_drewN ?_ _ | refine blk_drew ?_ | refine blk_alloc ?_ _)); exact BK192.out) hb); have n1_ := Aside0.mk (below_step (by repeat (first | (with_reducible first | exact HB.out | apply below_alloc | apply pw_below_drewN | apply below_drew1 | refine below_set ?_ GE192.out) | exact HB.out)) hb); have n2_ := Aside0.mk (hbox); have n3_ := Aside0.mk ((by rw [hg]; exact (below_size (by repeat (first | (with_reducible first | exact HB.out | apply below_alloc | apply pw_below_drewN | apply below_drew1 | refine below_set ?_ GE192.out) | exact HB.out))) : w.heap.size ≤ gb193)); have n4_ := Aside0.mk ((by rw [hg]; exact (below_size (by repeat (first | (with_reducible first | exact HB.out | apply below_alloc | apply pw_below_drewN | apply below_drew1 | refine below_set ?_ GE192.out) | exact HB.out))) : w.heap.size ≤ gb193)); have n5_ := Aside0.mk ((by rw [hg]; exact Nat.ne_of_lt (blk_lt (g := gb192) (o := .cells #[.int .i64 a0_0, .int .i64 a0_1, .int .i64 a0_2, .int .i64 a0_3] 31 (0, 0)) (by (with_reducible repeat (first | refine blk_drewN ?_ _ | refine blk_drew ?_ | refine blk_alloc ?_ _)); exact BK192.out)) : gb192 ≠ gb193)); have n6_ := Aside0.mk ((by rw [hg]; exact Nat.ne_of_gt (blk_lt (g := gb192) (o := .cells #[.int .i64 a0_0, .int .i64 a0_1, .int .i64 a0_2, .int .i64 a0_3] 31 (0, 0)) (by (with_reducible repeat (first | refine blk_drewN ?_ _ | refine blk_drew ?_ | refine blk_alloc ?_ _)); exact BK192.out)) : gb193 ≠ gb192)); clear BK192; clear HB; have BK192 := n0_; have HB := n1_; have BK193 := n2_; have GW193 := n3_; have GE193 := n4_; have NB192_193 := n5_; have NB193_192 := n6_; clear n0_ n1_ n2_ n3_ n4_ n5_ n6_; clear hb hbox hg) | ((with_reducible refine gate_dst (N := 4) rfl ?_); refine box_event ?hg (N := 4) ?hd (cs := #[.int .i64 0, .int .i64 0, .int .i64 0, .int .i64 0]) (t := 31) ?hr ?_; (case hd => rfl); (case hg => rfl); (case hr => first | (go_simp; done) | (go_simp; rfl)); intro gb194 hg w9 hbox hb; have n0_ := Aside0.mk (blk_below (g := gb192) (o := .cells #[.int .i64 a0_0, .int .i64 a0_1, .int .i64 a0_2, .int .i64 a0_3] 31 (0, 0)) (by (with_reducible repeat (first | refine blk_drewN ?_ _ | refine blk_drew ?_ | refine blk_alloc ?_ _)); exact BK192.out) hb); have n1_ := Aside0.mk (blk_below (g := gb193) (o := .cells #[.int .i64 a1_0, .int .i64 a1_1, .int .i64 a1_2, .int .i64 a1_3] 31 (0, 0)) (by (with_reducible repeat (first | refine blk_drewN ?_ _ | refine blk_drew ?_ | refine blk_alloc ?_ _)); exact BK193.out) hb); have n2_ := Aside0.mk (below_step (by repeat (first | (with_reducible first | exact HB.out | apply below_alloc | apply pw_below_drewN | apply below_drew1 | refine below_set ?_ GE192.out | refine below_set ?_ GE193.out) | exact HB.out)) hb); have n3_ := Aside0.mk (hbox); have n4_ := Aside0.mk ((by rw [hg]; exact (below_size (by repeat (first | (with_reducible first | exact HB.out | apply below_alloc | apply pw_below_drewN | apply below_drew1 | refine below_set ?_ GE192.out | refine below_set ?_ GE193.out) | exact HB.out))) : w.heap.size ≤ gb194)); have n5_ := Aside0.mk ((by rw [hg]; exact (below_size (by repeat (first | (with_reducible first | exact HB.out | apply below_alloc | apply pw_below_drewN | apply below_drew1 | refine below_set ?_ GE192.out | refine below_set ?_ GE193.out) | exact HB.out))) : w.heap.size ≤ gb194)); have n6_ := Aside0.mk ((by rw [hg]; exact Nat.ne_of_lt (blk_lt (g := gb192) (o := .cells #[.int .i64 a0_0, .int .i64 a0_1, .int .i64 a0_2, .int .i64 a0_3] 31 (0, 0)) (by (with_reducible repeat (first | refine blk_drewN ?_ _ | refine blk_drew ?_ | refine blk_alloc ?_ _)); exact BK192.out)) : gb192 ≠ gb194)); have n7_ := Aside0.mk ((by rw [hg]; exact Nat.ne_of_gt (blk_lt (g := gb192) (o := .cells #[.int .i64 a0_0, .int .i64 a0_1, .int .i64 a0_2, .int .i64 a0_3] 31 (0, 0)) (by (with_reducible repeat (first | refine blk_drewN ?_ _ | refine blk_drew ?_ | refine blk_alloc ?_ _)); exact BK192.out)) : gb194 ≠ gb192)); have n8_ := Aside0.mk ((by rw [hg]; exact Nat.ne_of_lt (blk_lt (g := gb193) (o := .cells #[.int .i64 a1_0, .int .i64 a1_1, .int .i64 a1_2, .int .i64 a1_3] 31 (0, 0)) (by (with_reducible repeat (first | refine blk_drewN ?_ _ | refine blk_drew ?_ | refine blk_alloc ?_ _)); exact BK193.out)) : gb193 ≠ gb194)); have n9_ := Aside0.mk ((by rw [hg]; exact Nat.ne_of_gt (blk_lt (g := gb193) (o := .cells #[.int .i64 a1_0, .int .i64 a1_1, .int .i64 a1_2, .int .i64 a1_3] 31 (0, 0)) (by (with_reducible repeat (first | refine blk_drewN ?_ _ | refine blk_drew ?_ | refine blk_alloc ?_ _)); exact BK193.out)) : gb194 ≠ gb193)); clear BK192; clear BK193; clear HB; have BK192 := n0_; have BK193 := n1_; have HB := n2_; have BK194 := n3_; have GW194 := n4_; have GE194 := n5_; have NB192_194 := n6_; have NB194_192 := n7_; have NB193_194 := n8_; have NB194_193 := n9_; clear n0_ n1_ n2_ n3_ n4_ n5_ n6_ n7_ n8_ n9_; clear hb hbox hg; have hnb10 := NB192_193.out; have hnc10 := NB193_192.out; have hnb11 := NB192_194.out; have hnc11 := NB194_192.out; have hcz12_0 : w9.cell? ⟨gb192, 0, none⟩ = some (.int .i64 a0_0) := (blk_cell BK192.out 0).trans rfl; have hcz12_1 : w9.cell? ⟨gb192, 1, none⟩ = some (.int .i64 a0_1) := (blk_cell BK192.out 1).trans rfl; have hcz12_2 : w9.cell? ⟨gb192, 2, none⟩ = some (.int .i64 a0_2) := (blk_cell BK192.out 2).trans rfl; have hcz12_3 : w9.cell? ⟨gb192, 3, none⟩ = some (.int .i64 a0_3) := (blk_cell BK192.out 3).trans rfl; have hfz12_0 := blk_frozen BK192.out 0; have hfz12_1 := blk_frozen BK192.out 1; have hfz12_2 := blk_frozen BK192.out 2; have hfz12_3 := blk_frozen BK192.out 3; have hnb13 := NB193_194.out; have hnc13 := NB194_193.out; have hcz14_0 : w9.cell? ⟨gb193, 0, none⟩ = some (.int .i64 a1_0) := (blk_cell BK193.out 0).trans rfl; have hcz14_1 : w9.cell? ⟨gb193, 1, none⟩ = some (.int .i64 a1_1) := (blk_cell BK193.out 1).trans rfl; have hcz14_2 : w9.cell? ⟨gb193, 2, none⟩ = some (.int .i64 a1_2) := (blk_cell BK193.out 2).trans rfl; have hcz14_3 : w9.cell? ⟨gb193, 3, none⟩ = some (.int .i64 a1_3) := (blk_cell BK193.out 3).trans rfl; have hfz14_0 := blk_frozen BK193.out 0; have hfz14_1 := blk_frozen BK193.out 1; have hfz14_2 := blk_frozen BK193.out 2; have hfz14_3 := blk_frozen BK193.out 3; have hcz15_0 : w9.cell? ⟨gb194, 0, none⟩ = some (.int .i64 0) := (blk_cell BK194.out 0).trans rfl; have hcz15_1 : w9.cell? ⟨gb194, 1, none⟩ = some (.int .i64 0) := (blk_cell BK194.out 1).trans rfl; have hcz15_2 : w9.cell? ⟨gb194, 2, none⟩ = some (.int .i64 0) := (blk_cell BK194.out 2).trans rfl; have hcz15_3 : w9.cell? ⟨gb194, 3, none⟩ = some (.int .i64 0) := (blk_cell BK194.out 3).trans rfl; have hfz15_0 := blk_frozen BK194.out 0; have hfz15_1 := blk_frozen BK194.out 1; have hfz15_2 := blk_frozen BK194.out 2; have hfz15_3 := blk_frozen BK194.out 3))
  refine bodyPost_ret (results_cell_row rfl _ _ gb194 31 #[.int .i64 ji3, .int .i64 ji4, .int .i64 ji5, .int .i64 ji6] (0, 0) _ rfl (by (with_reducible repeat (first | refine blk_drewN ?_ _ | refine blk_drew ?_ | refine blk_alloc ?_ _)); refine blk_put (cs := #[.int .i64 ji3, .int .i64 ji4, .int .i64 ji5, .int .i64 0]) ?_ 3 _ rfl; (with_reducible repeat (first | refine blk_drewN ?_ _ | refine blk_drew ?_ | refine blk_alloc ?_ _)); refine blk_put (cs := #[.int .i64 ji3, .int .i64 ji4, .int .i64 0, .int .i64 0]) ?_ 2 _ rfl; (with_reducible repeat (first | refine blk_drewN ?_ _ | refine blk_drew ?_ | refine blk_alloc ?_ _)); refine blk_put (cs := #[.int .i64 ji3, .int .i64 0, .int .i64 0, .int .i64 0]) ?_ 1 _ rfl; (with_reducible repeat (first | refine blk_drewN ?_ _ | refine blk_drew ?_ | refine blk_alloc ?_ _)); refine blk_put (cs := #[.int .i64 0, .int .i64 0, .int .i64 0, .int .i64 0]) ?_ 0 _ rfl; (with_reducible repeat (first | refine blk_drewN ?_ _ | refine blk_drew ?_ | refine blk_alloc ?_ _)); exact BK194.out) Try.underlying31 rfl (by kernel_rfl)) rfl ?_
  exact ⟨by first | rfl | (simp [errW_none, errW_some] <;> rfl) | (simp only [← hji3, ← hji4, ← hji5, ← hji6]; first | rfl | (simp [errW_none, errW_some] <;> rfl)) | (simp [*, errW_none, errW_some] <;> rfl), by repeat (first | (with_reducible first | exact HB.out | apply below_alloc | apply pw_below_drewN | apply below_drew1 | refine below_set ?_ GE192.out | refine below_set ?_ GE193.out | refine below_set ?_ GE194.out) | exact HB.out)⟩

end Go.Proofs.Ytmhaiihjfgfaoaa.Pr
end
section
/- The current at a box. -/
namespace Go.Proofs.Ytmhaiihjfgfaoaa.Gl
open Go.RowKit Go.Shelf Go.Proofs.YtmhaiihjfgfaoaaW.PrintWords Go.Proofs.YtmhaiihjfgfaoaaW.PrintLast Go.Proofs.YtmhaiihjfgfaoaaW.PrintMore Go.Proofs.Ytmhaiihjfgfaoaa.Pr Go.Proofs.YtmhaiihjfgfaoaaW.Round
set_option linter.unusedVariables false
set_option linter.unusedSimpArgs false
attribute [local go_sem] max2_int min2_int max_two min_two max_four
attribute [local go_sem] Oper.semAt_some
theorem mn_min' (a b : Int) : mn a b = min a b := by unfold mn; split <;> omega
theorem mx_max' (a b : Int) : mx a b = max a b := by unfold mx; split <;> omega
/-- The hull of two boxes. -/
def hullB (a b : S31) : S31 := ⟨⟨min a.f0.f0 b.f0.f0, max a.f0.f1 b.f0.f1⟩, ⟨min a.f1.f0 b.f1.f0, max a.f1.f1 b.f1.f1⟩⟩
def hullO (o : Option S31) (y : S31) : Option S31 := some (match o with | none => y | some z => hullB z y)
/-- The hull of some boxes; none of no box. -/
def hullL (l : List S31) : Option S31 := l.foldl hullO none
theorem hullL_snoc (l : List S31) (y : S31) : hullL (l ++ [y]) = hullO (hullL l) y := by unfold hullL; rw [List.foldl_append]; rfl
/-- The current of a cell in a slot, as a box. -/
def curB (s : Sea) (layer j c : Int) : S31 := ⟨(rd_T40 s.currents ((j * s.layers + layer) * (s.nx * s.ny) + c)).f0, (rd_T40 s.currents ((j * s.layers + layer) * (s.nx * s.ny) + c)).f1⟩
def slotL (s : Sea) (x : S31) (layer j : Int) : List S31 := (touchL s x).map (curB s layer j)
def boxesL (s : Sea) (x : S31) (layer j0 : Int) (q : Nat) : List S31 := (List.range q).flatMap fun r : Nat => slotL s x layer (j0 + (r : Int))
theorem boxesL_succ (s : Sea) (x : S31) (layer j0 : Int) (q : Nat) : boxesL s x layer j0 (q + 1) = boxesL s x layer j0 q ++ slotL s x layer (j0 + (q : Int)) := by
  unfold boxesL
  rw [List.range_succ, List.flatMap_append, List.flatMap_singleton]
/-- The current at a box. -/
def atI (s : Sea) (x : S31) (layer t u : Int) : S31 := (hullL (boxesL s x layer (t / s.slot) ((u - 1) / s.slot + 1 - t / s.slot).toNat)).getD z31
/-- What a round keeps: what lay below w, and what the iterator has captured. -/
def KpT (w : World) (bp bx b : Nat) (x : S31) (A B : World) : Prop := Below w.heap.size A B ∧ (Blk A bp #[.pointer (some ⟨b, 0, none⟩)] 104 → Blk B bp #[.pointer (some ⟨b, 0, none⟩)] 104) ∧ (Blk A bx #[.int .i64 x.f0.f0, .int .i64 x.f0.f1, .int .i64 x.f1.f0, .int .i64 x.f1.f1] 31 → Blk B bx #[.int .i64 x.f0.f0, .int .i64 x.f0.f1, .int .i64 x.f1.f0, .int .i64 x.f1.f1] 31)
theorem KpT.trans {w : World} {bp bx b : Nat} {x : S31} {A B C : World} (h : KpT w bp bx b x A B) (k : KpT w bp bx b x B C) : KpT w bp bx b x A C := ⟨h.1.trans k.1, fun q => k.2.1 (h.2.1 q), fun q => k.2.2 (h.2.2 q)⟩
theorem KpT.put {w W0 : World} {bp bx b : Nat} {x : S31} (hw : w.heap.size ≤ W0.heap.size) (hp : bp < W0.heap.size) (hx : bx < W0.heap.size) (W : World) (l : Nat) (o o' : Obj) (hl : W0.heap.size ≤ l) (h : W.heap[l]? = some o) (h1 : o.isCells = false) (h2 : o.isWalk = false) : KpT w bp bx b x W (W.putObj l o') :=
  ⟨belowK_b hw W l o o' hl h h1 h2, fun q => (World.putObj_heap_other (by omega)).trans q, fun q => (World.putObj_heap_other (by omega)).trans q⟩
theorem KpT.below {w : World} {bp bx b : Nat} {x : S31} {A B : World} (hw : w.heap.size ≤ A.heap.size) (h : Below A.heap.size A B) : KpT w bp bx b x A B := ⟨h.mono hw, fun q => Blk.belowH q h, fun q => Blk.belowH q h⟩
theorem KpT.set {w : World} {bp bx b : Nat} {x : S31} {A B : World} (h : KpT w bp bx b x A B) {p : Addr} (hp : w.heap.size ≤ p.block) (h1 : bp ≠ p.block) (h2 : bx ≠ p.block) (u : Value) : KpT w bp bx b x A (B.setCell p u) := ⟨h.1.setCell hp u, fun q => blk_far (h.2.1 q) h1 u, fun q => blk_far (h.2.2 q) h2 u⟩
/-- A mark among the deferred calls. -/
def mark (D_ : Nat) : Deferred := { target := .collected D_, args := #[] }
/-- The marks of the ranges over functions that are over. -/
def Marks (W : World) (B : Nat) (Ds : List Nat) : Prop := Ds.Nodup ∧ ∀ D_ ∈ Ds, B ≤ D_ ∧ W.heap[D_]? = some (.deferred (some []))
theorem Marks.nil (W : World) (B : Nat) : Marks W B [] := ⟨List.nodup_nil, fun D_ h => by cases h⟩
theorem Marks.below {W W1 : World} {B : Nat} {Ds : List Nat} (h : Marks W B Ds) (hb : Below W.heap.size W W1) : Marks W1 B Ds :=
  ⟨h.1, fun D_ hD => ⟨(h.2 D_ hD).1, (hb.block D_ (Array.getElem?_eq_some_iff.1 (h.2 D_ hD).2).1).trans (h.2 D_ hD).2⟩⟩
theorem Marks.cons {W : World} {B D_ : Nat} {Ds : List Nat} (h : Marks W B Ds) (hn : D_ ∉ Ds) (hB : B ≤ D_) (hD : W.heap[D_]? = some (.deferred (some []))) : Marks W B (D_ :: Ds) :=
  ⟨List.nodup_cons.2 ⟨hn, h.1⟩, fun E hE => by
    rcases List.mem_cons.1 hE with rfl | hE
    · exact ⟨hB, hD⟩
    · exact h.2 E hE⟩
theorem Marks.set {W : World} {B : Nat} {Ds : List Nat} (h : Marks W B Ds) {g i : Nat} {cs : Array Value} {t : TypeId} (hg : W.heap[g]? = some (.cells cs t (0, 0))) (u : Value) : Marks (W.setCell ⟨g, i, none⟩ u) B Ds :=
  ⟨h.1, fun D_ hD => ⟨(h.2 D_ hD).1, (Below.heap_setCell _ _ _ D_ (fun e => by
    have h2 := (h.2 D_ hD).2
    rw [show D_ = g from e, hg] at h2
    cases h2)).trans (h.2 D_ hD).2⟩⟩
theorem marks_ownFrom {β : Type} (B B0 : Nat) (Ds : List Nat) (h : ∀ D_ ∈ Ds, D_ < B) : OwnFrom B (fun (_ : β) W => Marks W B0 Ds) := fun s X Y row hs hg hr =>
  ⟨hs.1, fun D_ hD => ⟨(hs.2 D_ hD).1, (hg.block D_ (Array.getElem?_eq_some_iff.1 (hs.2 D_ hD).2).1 (fun e => by have h1 := (hr D_ e.symm).1; have h2 := h D_ hD; omega)).trans (hs.2 D_ hD).2⟩⟩
/-- A function leaves with marks: each is taken, and what abides this is said at the end. -/
theorem leaves_marks {P : Program} {F : Fence} {n : Nat} {fn : Func} {tmps : Array Value} {R : Ending → World → Prop} {B : Nat} (I : World → Prop) (hI : ∀ W D_, I W → B ≤ D_ → W.heap[D_]? = some (.deferred (some [])) → I (W.putObj D_ (.deferred none)))
    (hend : ∀ W, I W → LeavesInM F n P fn tmps R [] .returning W) : ∀ (Ds : List Nat) (W : World), Marks W B Ds → I W → LeavesInM F n P fn tmps R (Ds.map mark) .returning W
  | [], W, _, h => hend W h
  | D_ :: Ds, W, hM, h => by
    have hD := hM.2 D_ List.mem_cons_self
    refine ⟨by simp, .inl ⟨D_, _, rfl, run_takeDeferred hD.2, ?_⟩⟩
    refine leaves_marks I hI hend Ds _ ⟨(List.nodup_cons.1 hM.1).2, fun E hE => ?_⟩ (hI W D_ h hD.1 hD.2)
    have hE2 := hM.2 E (List.mem_cons_of_mem _ hE)
    have hne : E ≠ D_ := fun e => (List.nodup_cons.1 hM.1).1 (e ▸ hE)
    exact ⟨hE2.1, (World.putObj_heap_other (fun e => hne e)).trans hE2.2⟩
theorem index_in {q l k c ll kk : Int} (h0 : 0 ≤ q) (h1 : q < ll) (h2 : 0 ≤ l) (h3 : l < kk) (h4 : 0 ≤ c) (h5 : c < k) : 0 ≤ (q * kk + l) * k + c ∧ (q * kk + l) * k + c < ll * kk * k := by
  have a0 : 0 ≤ q * kk := Int.mul_nonneg h0 (by omega)
  have a1 : 0 ≤ (q * kk + l) * k := Int.mul_nonneg (by omega) (by omega)
  have a2 : (q + 1) * kk ≤ ll * kk := Int.mul_le_mul_of_nonneg_right (by omega) (by omega)
  rw [Int.add_mul, Int.one_mul] at a2
  have a3 : (q * kk + l + 1) * k ≤ ll * kk * k := Int.mul_le_mul_of_nonneg_right (by omega) (by omega)
  rw [Int.add_mul, Int.one_mul] at a3
  omega
def outV (l : List S31) : S31 := (hullL l).getD z31
theorem outV_snoc_none {l : List S31} {y : S31} (h : hullL l = none) : hullL (l ++ [y]) = some y := by rw [hullL_snoc, h]; rfl
theorem outV_snoc_some {l : List S31} {y z : S31} (h : hullL l = some z) : hullL (l ++ [y]) = some (hullB z y) := by rw [hullL_snoc, h]; rfl
theorem hull_any (a c : S31) (w : World) : Calls Try.prog 119 #[.agg #[.int .i64 a.f0.f0, .int .i64 a.f0.f1, .int .i64 a.f1.f0, .int .i64 a.f1.f1], .agg #[.int .i64 c.f0.f0, .int .i64 c.f0.f1, .int .i64 c.f1.f0, .int .i64 c.f1.f1]] w
    (RetB (.agg #[.int .i64 (hullB a c).f0.f0, .int .i64 (hullB a c).f0.f1, .int .i64 (hullB a c).f1.f0, .int .i64 (hullB a c).f1.f1]) w) :=
  glider_hull.calls _ _ _ _ _ _ _ _ _ _ _ _ w (by unfold glider_hull.f hullB; simp only [mn_min', mx_max'])
set_option maxRecDepth 100000 in
set_option maxHeartbeats 8000000 in
theorem at_any (b : Nat) (s : Sea) (v : Veh) (x : S31) (layer t u : Int) (w : World) (hT : TripAt w b s v) (hS : SeaN s) (hx : InSea s x) (hcu : (s.currents.length : Int) = s.slots * s.layers * (s.nx * s.ny)) (hl0 : 0 ≤ layer) (hl1 : layer < s.layers) (ht0 : 0 ≤ t) (ht1 : t < u) (ht2 : u ≤ s.slots * s.slot) :
    Calls Try.prog 70 #[.pointer (some ⟨b, 0, none⟩), .agg #[.int .i64 x.f0.f0, .int .i64 x.f0.f1, .int .i64 x.f1.f0, .int .i64 x.f1.f1], .int .i64 layer, .int .i64 t, .int .i64 u] w (RetB (.agg #[.int .i64 (atI s x layer t u).f0.f0, .int .i64 (atI s x layer t u).f0.f1, .int .i64 (atI s x layer t u).f1.f0, .int .i64 (atI s x layer t u).f1.f1]) w) := by
  have hu31 := Try.underlying31
  have hxy := mul_in (show 0 ≤ s.nx by have := hS.nx; omega) hS.nx.2 (show 0 ≤ s.ny by have := hS.ny; omega) hS.ny.2
  have hss := mul_in (show 0 ≤ s.slots by have := hS.slots; omega) hS.slots.2 (show 0 ≤ s.slot by have := hS.slot; omega) hS.slot.2
  have hsl := hS.slot
  have hso := hS.slots
  have hla := hS.layers
  have hcl : s.currents.length ≤ 10000 := by
    have h1 := mul_in (show 0 ≤ s.slots by omega) hso.2 (show 0 ≤ s.layers by omega) hla.2
    have h2 := mul_in h1.1 h1.2 hxy.1 hxy.2
    omega
  have HCU := Lib.hid hcu
  clear hcu
  have hj0 := div_in ht0 (show 1 ≤ s.slot by omega)
  have hj1 := div_in (show 0 ≤ u - 1 by omega) (show 1 ≤ s.slot by omega)
  have hj2 : (u - 1) / s.slot < s.slots := by
    refine Int.ediv_lt_of_lt_mul (by omega) ?_
    omega
  have e0 : Int.tdiv t s.slot = t / s.slot := Int.tdiv_eq_ediv_of_nonneg ht0
  have e1 : Int.tdiv (u - 1) s.slot = (u - 1) / s.slot := Int.tdiv_eq_ediv_of_nonneg (by omega)
  have hne : s.slot ≠ 0 := by omega
  have hbq : (s.slot == 0) = false := beq_eq_false_iff_ne.2 hne
  have HR : Hid (atI s x layer t u = (hullL (boxesL s x layer (t / s.slot) ((u - 1) / s.slot + 1 - t / s.slot).toNat)).getD z31) := Lib.hid rfl
  generalize t / s.slot = j0 at *
  generalize (u - 1) / s.slot = j1 at *
  have hT0 := hT
  obtain ⟨A7, c7, A8, c8, mT, _⟩ := hT0
  refine (callsIn_wide (n := 6)).1 ?_
  refine callsIn_of_wp_marks Try.func70 rfl trivial ?_ rfl
  simp only [Try.ntmps70, List.size_toArray, List.length_cons, List.length_nil, Nat.reduceAdd, Nat.reduceSub, Array.replicate_succ, Array.replicate_zero, List.push_toArray, List.append_toArray, List.nil_append, List.cons_append]
  gi_wp2_with fail
  have hl_T := blk_lt mT
  have m5 : Blk (((w.alloc (.cells #[.pointer (some ⟨b, 0, none⟩)] 104)).alloc (.cells #[.int .i64 x.f0.f0, .int .i64 x.f0.f1, .int .i64 x.f1.f0, .int .i64 x.f1.f1] 31)).alloc (.cells #[.int .i64 0, .int .i64 0, .int .i64 0, .int .i64 0] 31)) (w.heap.size) #[.pointer (some ⟨b, 0, none⟩)] 104 := (blk_alloc (blk_alloc (by have h_ := blk_new w (.cells #[.pointer (some ⟨b, 0, none⟩)] 104); first | exact h_ | (simp only [World.size_alloc] at h_; exact h_)) _) _)
  have m6 : Blk (((w.alloc (.cells #[.pointer (some ⟨b, 0, none⟩)] 104)).alloc (.cells #[.int .i64 x.f0.f0, .int .i64 x.f0.f1, .int .i64 x.f1.f0, .int .i64 x.f1.f1] 31)).alloc (.cells #[.int .i64 0, .int .i64 0, .int .i64 0, .int .i64 0] 31)) (w.heap.size + 1) #[.int .i64 x.f0.f0, .int .i64 x.f0.f1, .int .i64 x.f1.f0, .int .i64 x.f1.f1] 31 := (blk_alloc (by have h_ := blk_new (w.alloc (.cells #[.pointer (some ⟨b, 0, none⟩)] 104)) (.cells #[.int .i64 x.f0.f0, .int .i64 x.f0.f1, .int .i64 x.f1.f0, .int .i64 x.f1.f1] 31); first | exact h_ | (simp only [World.size_alloc] at h_; exact h_)) _)
  have m10 : Blk (((w.alloc (.cells #[.pointer (some ⟨b, 0, none⟩)] 104)).alloc (.cells #[.int .i64 x.f0.f0, .int .i64 x.f0.f1, .int .i64 x.f1.f0, .int .i64 x.f1.f1] 31)).alloc (.cells #[.int .i64 0, .int .i64 0, .int .i64 0, .int .i64 0] 31)) (w.heap.size + 1 + 1) #[.int .i64 0, .int .i64 0, .int .i64 0, .int .i64 0] 31 := (by have h_ := blk_new ((w.alloc (.cells #[.pointer (some ⟨b, 0, none⟩)] 104)).alloc (.cells #[.int .i64 x.f0.f0, .int .i64 x.f0.f1, .int .i64 x.f1.f0, .int .i64 x.f1.f1] 31)) (.cells #[.int .i64 0, .int .i64 0, .int .i64 0, .int .i64 0] 31); first | exact h_ | (simp only [World.size_alloc] at h_; exact h_))
  replace mT : Blk (((w.alloc (.cells #[.pointer (some ⟨b, 0, none⟩)] 104)).alloc (.cells #[.int .i64 x.f0.f0, .int .i64 x.f0.f1, .int .i64 x.f1.f0, .int .i64 x.f1.f1] 31)).alloc (.cells #[.int .i64 0, .int .i64 0, .int .i64 0, .int .i64 0] 31)) b #[.int .i64 s.nx, .int .i64 s.ny, .int .i64 s.cell, .int .i64 s.slot, .int .i64 s.slots, .int .i64 s.layers, .int .i64 s.most, .slice A7 s.shores.length c7, .slice A8 s.currents.length c8, .int .i64 v.speed, .int .i64 v.dive, .int .i64 v.use.f0, .int .i64 v.use.f1, .int .i64 v.drift.f0, .int .i64 v.drift.f1, .int .i64 v.reserve] 110 := (blk_alloc (blk_alloc (blk_alloc mT _) _) _)
  have mB : Below w.heap.size w (((w.alloc (.cells #[.pointer (some ⟨b, 0, none⟩)] 104)).alloc (.cells #[.int .i64 x.f0.f0, .int .i64 x.f0.f1, .int .i64 x.f1.f0, .int .i64 x.f1.f1] 31)).alloc (.cells #[.int .i64 0, .int .i64 0, .int .i64 0, .int .i64 0] 31)) := (below_alloc (below_alloc (below_alloc (Below.refl w.heap.size w) _) _) _)
  have hsz_ : w.heap.size ≤ w.heap.size := Nat.le_refl _
  generalize hW_ : (((w.alloc (.cells #[.pointer (some ⟨b, 0, none⟩)] 104)).alloc (.cells #[.int .i64 x.f0.f0, .int .i64 x.f0.f1, .int .i64 x.f1.f0, .int .i64 x.f1.f1] 31)).alloc (.cells #[.int .i64 0, .int .i64 0, .int .i64 0, .int .i64 0] 31)) = W1 at mT m5 m6 m10 mB ⊢
  clear hW_
  generalize hg5 : w.heap.size = g5 at m5 m6 m10 ⊢
  have hn_T_5 : b ≠ g5 := by omega
  have hn_5_T : g5 ≠ b := hn_T_5.symm
  have hG5 : w.heap.size ≤ g5 := by omega
  generalize hg6 : g5 + 1 = g6 at m6 m10 ⊢
  have hn_T_6 : b ≠ g6 := by omega
  have hn_5_6 : g5 ≠ g6 := by omega
  have hn_6_T : g6 ≠ b := hn_T_6.symm
  have hn_6_5 : g6 ≠ g5 := hn_5_6.symm
  have hG6 : w.heap.size ≤ g6 := by omega
  generalize hg10 : g6 + 1 = g10 at m10 ⊢
  have hn_T_10 : b ≠ g10 := by omega
  have hn_5_10 : g5 ≠ g10 := by omega
  have hn_6_10 : g6 ≠ g10 := by omega
  have hn_10_T : g10 ≠ b := hn_T_10.symm
  have hn_10_5 : g10 ≠ g5 := hn_5_10.symm
  have hn_10_6 : g10 ≠ g6 := hn_6_10.symm
  have hG10 : w.heap.size ≤ g10 := by omega
  clear hsz_ hl_T
  try clear hg10
  try clear hg6
  try clear hg5
  have hs_W1 : w.heap.size ≤ W1.heap.size := mB.size
  refine wpIn_only (wpIn_wide.2 ?_)
  replace mT := blk_drew mT
  replace m5 := blk_drew m5
  replace m6 := blk_drew m6
  replace m10 := blk_drew m10
  replace mB := below_drew1 mB
  have wq : wrap64 (s.nx * s.ny) = s.nx * s.ny := by unfold wrap64; omega
  refine start_ (n := 12) (S := fun w' => w'.cell? ⟨g5, 0, none⟩ = some (.pointer (some ⟨b, 0, none⟩)) ∧ w'.cell? ⟨b, 0, none⟩ = some (.int .i64 s.nx) ∧ w'.cell? ⟨b, 1, none⟩ = some (.int .i64 s.ny)) (ds := []) #[false, false, false, false, false, false, false, false, false, false, false, false] (by kernel_rfl) rfl rfl ⟨((blk_cell m5 0).trans rfl), ((blk_cell mT 0).trans rfl), ((blk_cell mT 1).trans rfl)⟩ (fun hHeld => ?_)
  generalize hWd : World.drew _ = Wx at mB mT m5 m6 m10 hHeld ⊢
  clear hWd
  refine take_ (i := 0) (N := some 17) (v := ?_) (a' := ?_) #[true, false, false, false, false, false, false, false, false, false, false, false] rfl rfl (by kernel_rfl) (fun _ _ _ h => h) (Or.inl ⟨by rfl, ?_⟩) hHeld ?_ ?_
  rotate_left
  · rintro w' ⟨s0, s1, s2⟩
    go_simp
    with_reducible rfl
  rotate_left
  · simp only [Act.put, List.setIfInBounds_toArray, List.set_cons_zero, List.set_cons_succ, i64_w, i32_w]
    rfl
  refine pure_ (i := 1) (N := some 18) (v := ?_) (a' := ?_) #[true, true, false, false, false, false, false, false, false, false, false, false] rfl rfl (by kernel_rfl) (fun _ _ _ h => h) (Or.inl ⟨by rfl, ?_⟩) ?_ ?_
  rotate_left
  · intro w'
    go_simp
    with_reducible rfl
  rotate_left
  · simp only [Act.put, List.setIfInBounds_toArray, List.set_cons_zero, List.set_cons_succ, i64_w, i32_w]
    rfl
  refine pure_ (i := 2) (N := some 19) (v := ?_) (a' := ?_) #[true, true, true, false, false, false, false, false, false, false, false, false] rfl rfl (by kernel_rfl) (fun _ _ _ h => h) (Or.inl ⟨by rfl, ?_⟩) ?_ ?_
  rotate_left
  · intro w'
    go_simp
    with_reducible rfl
  rotate_left
  · simp only [Act.put, List.setIfInBounds_toArray, List.set_cons_zero, List.set_cons_succ, i64_w, i32_w]
    rfl
  refine pure_ (i := 3) (N := some 20) (v := ?_) (a' := ?_) #[true, true, true, true, false, false, false, false, false, false, false, false] rfl rfl (by kernel_rfl) (fun _ _ _ h => h) (Or.inl ⟨by rfl, ?_⟩) ?_ ?_
  rotate_left
  · intro w'
    go_simp
    with_reducible rfl
  rotate_left
  · simp only [Act.put, List.setIfInBounds_toArray, List.set_cons_zero, List.set_cons_succ, i64_w, i32_w]
    rfl
  refine take_ (i := 4) (N := some 21) (v := ?_) (a' := ?_) #[true, true, true, true, true, false, false, false, false, false, false, false] rfl rfl (by kernel_rfl) (fun _ _ _ h => h) (Or.inl ⟨by rfl, ?_⟩) hHeld ?_ ?_
  rotate_left
  · rintro w' ⟨s0, s1, s2⟩
    go_simp
    with_reducible rfl
  rotate_left
  · simp only [Act.put, List.setIfInBounds_toArray, List.set_cons_zero, List.set_cons_succ, i64_w, i32_w]
    rfl
  refine take_ (i := 5) (N := some 22) (v := ?_) (a' := ?_) #[true, true, true, true, true, true, false, false, false, false, false, false] rfl rfl (by kernel_rfl) (fun _ _ _ h => h) (Or.inl ⟨by rfl, ?_⟩) hHeld ?_ ?_
  rotate_left
  · rintro w' ⟨s0, s1, s2⟩
    go_simp
    with_reducible rfl
  rotate_left
  · simp only [Act.put, List.setIfInBounds_toArray, List.set_cons_zero, List.set_cons_succ, i64_w, i32_w]
    rfl
  refine pure_ (i := 6) (N := some 23) (v := ?_) (a' := ?_) #[true, true, true, true, true, true, true, false, false, false, false, false] rfl rfl (by kernel_rfl) (fun _ _ _ h => h) (Or.inl ⟨by rfl, ?_⟩) ?_ ?_
  rotate_left
  · intro w'
    go_simp
    with_reducible rfl
  rotate_left
  · simp only [Act.put, List.setIfInBounds_toArray, List.set_cons_zero, List.set_cons_succ, i64_w, i32_w]
    rfl
  refine pure_ (i := 7) (N := some 24) (v := ?_) (a' := ?_) #[true, true, true, true, true, true, true, true, false, false, false, false] rfl rfl (by kernel_rfl) (fun _ _ _ h => h) (Or.inl ⟨by rfl, ?_⟩) ?_ ?_
  rotate_left
  · intro w'
    go_simp
    with_reducible rfl
  rotate_left
  · simp only [Act.put, List.setIfInBounds_toArray, List.set_cons_zero, List.set_cons_succ, i64_w, i32_w]
    rfl
  refine pure_ (i := 8) (N := some 25) (v := ?_) (a' := ?_) #[true, true, true, true, true, true, true, true, true, false, false, false] rfl rfl (by kernel_rfl) (fun _ _ _ h => h) (Or.inl ⟨by rfl, ?_⟩) ?_ ?_
  rotate_left
  · intro w'
    go_simp
    with_reducible rfl
  rotate_left
  · simp only [Act.put, List.setIfInBounds_toArray, List.set_cons_zero, List.set_cons_succ, i64_w, i32_w]
    rfl
  refine take_ (i := 9) (N := some 26) (v := ?_) (a' := ?_) #[true, true, true, true, true, true, true, true, true, true, false, false] rfl rfl (by kernel_rfl) (fun _ _ _ h => h) (Or.inl ⟨by rfl, ?_⟩) hHeld ?_ ?_
  rotate_left
  · rintro w' ⟨s0, s1, s2⟩
    go_simp
    with_reducible rfl
  rotate_left
  · simp only [Act.put, List.setIfInBounds_toArray, List.set_cons_zero, List.set_cons_succ, i64_w, i32_w]
    rfl
  refine pure_ (i := 10) (N := some 27) (v := ?_) (a' := ?_) #[true, true, true, true, true, true, true, true, true, true, true, false] rfl rfl (by kernel_rfl) (fun _ _ _ h => h) (Or.inl ⟨by rfl, ?_⟩) ?_ ?_
  rotate_left
  · intro w'
    go_simp
    with_reducible rfl
  rotate_left
  · simp only [Act.put, List.setIfInBounds_toArray, List.set_cons_zero, List.set_cons_succ, i64_w, i32_w]
    rfl
  refine pure_ (i := 11) (N := some 11) (v := ?_) (a' := ?_) #[true, true, true, true, true, true, true, true, true, true, true, true] rfl rfl (by kernel_rfl) (fun _ _ _ h => h) (Or.inl ⟨by rfl, ?_⟩) ?_ ?_
  rotate_left
  · intro w'
    go_simp
    with_reducible rfl
  rotate_left
  · simp only [Act.put, List.setIfInBounds_toArray, List.set_cons_zero, List.set_cons_succ, i64_w, i32_w]
    rfl
  refine done_ (by kernel_rfl) ?_
  clear wq hHeld
  refine onlyN_normal ?_
  have c5_0 := (blk_cell m5 0).trans rfl
  have cT3 := (blk_cell mT 3).trans rfl
  have cq : ∀ o_, (Wx.alloc o_).cell? ⟨g5, 0, none⟩ = some (.pointer (some ⟨b, 0, none⟩)) := fun o_ => (blk_cell (blk_alloc m5 o_) 0).trans rfl
  have cq3 : ∀ o_, (Wx.alloc o_).cell? ⟨b, 3, none⟩ = some (.int .i64 s.slot) := fun o_ => (blk_cell (blk_alloc mT o_) 3).trans rfl
  gi_wp2_with fail
  clear cq cq3 c5_0 cT3
  have hs_Wx : w.heap.size ≤ Wx.heap.size := mB.size
  have hl_T := blk_lt mT
  have hl_5 := blk_lt m5
  have hl_6 := blk_lt m6
  have hl_10 := blk_lt m10
  have m12 : Blk (Wx.alloc (.cells #[.bool true] 4)) (Wx.heap.size) #[.bool true] 4 := (by have h_ := blk_new Wx (.cells #[.bool true] 4); first | exact h_ | (simp only [World.size_alloc] at h_; exact h_))
  replace mT : Blk (Wx.alloc (.cells #[.bool true] 4)) b #[.int .i64 s.nx, .int .i64 s.ny, .int .i64 s.cell, .int .i64 s.slot, .int .i64 s.slots, .int .i64 s.layers, .int .i64 s.most, .slice A7 s.shores.length c7, .slice A8 s.currents.length c8, .int .i64 v.speed, .int .i64 v.dive, .int .i64 v.use.f0, .int .i64 v.use.f1, .int .i64 v.drift.f0, .int .i64 v.drift.f1, .int .i64 v.reserve] 110 := (blk_alloc mT _)
  replace m5 : Blk (Wx.alloc (.cells #[.bool true] 4)) g5 #[.pointer (some ⟨b, 0, none⟩)] 104 := (blk_alloc m5 _)
  replace m6 : Blk (Wx.alloc (.cells #[.bool true] 4)) g6 #[.int .i64 x.f0.f0, .int .i64 x.f0.f1, .int .i64 x.f1.f0, .int .i64 x.f1.f1] 31 := (blk_alloc m6 _)
  replace m10 : Blk (Wx.alloc (.cells #[.bool true] 4)) g10 #[.int .i64 0, .int .i64 0, .int .i64 0, .int .i64 0] 31 := (blk_alloc m10 _)
  replace mB : Below w.heap.size w (Wx.alloc (.cells #[.bool true] 4)) := (below_alloc mB _)
  have hsz_ : w.heap.size ≤ Wx.heap.size := hs_Wx
  generalize hW_ : (Wx.alloc (.cells #[.bool true] 4)) = W2 at mT m5 m6 m10 m12 mB ⊢
  clear hW_
  generalize hg12 : Wx.heap.size = g12 at m12 ⊢
  have hn_T_12 : b ≠ g12 := by omega
  have hn_5_12 : g5 ≠ g12 := by omega
  have hn_6_12 : g6 ≠ g12 := by omega
  have hn_10_12 : g10 ≠ g12 := by omega
  have hn_12_T : g12 ≠ b := hn_T_12.symm
  have hn_12_5 : g12 ≠ g5 := hn_5_12.symm
  have hn_12_6 : g12 ≠ g6 := hn_6_12.symm
  have hn_12_10 : g12 ≠ g10 := hn_10_12.symm
  have hG12 : w.heap.size ≤ g12 := by omega
  clear hsz_ hl_T hl_5 hl_6 hl_10
  try clear hg12
  have hs_W2 : w.heap.size ≤ W2.heap.size := mB.size
  refine wpIn_loop (fun a W => ∃ (q : Nat) (j : Int) (Ds : List Nat) (u_ : Nat → Value), a = { tmps := #[(u_ 0), (u_ 1), .int .i64 layer, (u_ 3), .int .i64 u, .pointer (some ⟨g5, 0, none⟩), .pointer (some ⟨g6, 0, none⟩), (u_ 7), (u_ 8), (u_ 9), .pointer (some ⟨g10, 0, none⟩), .int .i64 (s.nx * s.ny), .pointer (some ⟨g12, 0, none⟩), .int .i64 j, (u_ 14), (u_ 15), (u_ 16), (u_ 17), (u_ 18), (u_ 19), (u_ 20), (u_ 21), (u_ 22), (u_ 23), (u_ 24), (u_ 25), (u_ 26), (u_ 27), (u_ 28), (u_ 29), (u_ 30), (u_ 31), (u_ 32), (u_ 33), (u_ 34), (u_ 35), (u_ 36), (u_ 37), (u_ 38), (u_ 39), (u_ 40), (u_ 41), (u_ 42), (u_ 43), (u_ 44), (u_ 45), (u_ 46), (u_ 47), (u_ 48), (u_ 49), (u_ 50), (u_ 51), (u_ 52), (u_ 53), (u_ 54), (u_ 55), (u_ 56), (u_ 57), (u_ 58), (u_ 59), (u_ 60), (u_ 61), (u_ 62), (u_ 63), (u_ 64), (u_ 65), (u_ 66), (u_ 67), (u_ 68), (u_ 69), (u_ 70), (u_ 71), (u_ 72), (u_ 73), (u_ 74), (u_ 75), (u_ 76), (u_ 77), (u_ 78), (u_ 79), (u_ 80), (u_ 81), (u_ 82), (u_ 83), (u_ 84), (u_ 85), (u_ 86), (u_ 87), (u_ 88), (u_ 89), (u_ 90), (u_ 91)], defers := Ds.map mark } ∧ Hid (j = j0 + (q : Int)) ∧ q ≤ (j1 + 1 - j0).toNat ∧ Marks W w.heap.size Ds ∧ Blk W g5 #[.pointer (some ⟨b, 0, none⟩)] 104 ∧ Blk W g6 #[.int .i64 x.f0.f0, .int .i64 x.f0.f1, .int .i64 x.f1.f0, .int .i64 x.f1.f1] 31 ∧ Blk W g10 #[.int .i64 (outV (boxesL s x layer j0 q)).f0.f0, .int .i64 (outV (boxesL s x layer j0 q)).f0.f1, .int .i64 (outV (boxesL s x layer j0 q)).f1.f0, .int .i64 (outV (boxesL s x layer j0 q)).f1.f1] 31 ∧ Blk W g12 #[.bool (hullL (boxesL s x layer j0 q)).isNone] 4 ∧ Below w.heap.size w W) (fun a _ => (j1 + 1 - intOf (a.tmps.getD 13 undef)).toNat) ⟨0, j0, [], (fun k => (#[.pointer (some ⟨b, 0, none⟩), .agg #[.int .i64 x.f0.f0, .int .i64 x.f0.f1, .int .i64 x.f1.f0, .int .i64 x.f1.f1], .int .i64 layer, .int .i64 t, .int .i64 u, .pointer (some ⟨g5, 0, none⟩), .pointer (some ⟨g6, 0, none⟩), undef, undef, undef, .pointer (some ⟨g10, 0, none⟩), .int .i64 (s.nx * s.ny), .pointer (some ⟨g12, 0, none⟩), .int .i64 j0, undef, undef, undef, .pointer (some ⟨b, 0, none⟩), .pointer (some ⟨b, 0, none⟩), .pointer (some ⟨b, 0, none⟩), .pointer (some ⟨b, 0, none⟩), .int .i64 s.nx, .pointer (some ⟨b, 0, none⟩), .pointer (some ⟨b, 0, none⟩), .pointer (some ⟨b, 0, none⟩), .pointer (some ⟨b, 1, none⟩), .int .i64 s.ny, .int .i64 (wrap64 (s.nx * s.ny)), .int .i64 t, .pointer (some ⟨b, 0, none⟩), .pointer (some ⟨b, 0, none⟩), .pointer (some ⟨b, 0, none⟩), .pointer (some ⟨b, 3, none⟩), .int .i64 s.slot, .int .i64 j0, undef, undef, undef, undef, undef, undef, undef, undef, undef, undef, undef, undef, undef, undef, undef, undef, undef, undef, undef, undef, undef, undef, undef, undef, undef, undef, undef, undef, undef, undef, undef, undef, undef, undef, undef, undef, undef, undef, undef, undef, undef, undef, undef, undef, undef, undef, undef, undef, undef, undef, undef, undef, undef, undef, undef, undef, undef] : Array Value).getD k undef), rfl, Lib.hid (by omega), Nat.zero_le _, Marks.nil _ _, m5, m6, m10, m12, mB⟩ ?_
  clear m5 m6 m10 m12 mB mT
  rintro a_ W ⟨q, j, Ds, u_, rfl, HJ, hq, hM, m5, m6, m10, m12, mB⟩
  have hs_W : w.heap.size ≤ W.heap.size := mB.size
  obtain ⟨A7, c7, A8, c8, mT, _, _, hc8, hC8⟩ := hT.below mB
  have cT3 := (blk_cell mT 3).trans rfl
  have cT5 := (blk_cell mT 5).trans rfl
  have c5_0 := (blk_cell m5 0).trans rfl
  have c6_0 : ∀ o_, (W.alloc o_).cell? ⟨g6, 0, none⟩ = some (.int .i64 x.f0.f0) := fun o_ => (blk_cell (blk_alloc m6 o_) 0).trans rfl
  have c6_1 : ∀ o_, (W.alloc o_).cell? ⟨g6, 1, none⟩ = some (.int .i64 x.f0.f1) := fun o_ => (blk_cell (blk_alloc m6 o_) 1).trans rfl
  have c6_2 : ∀ o_, (W.alloc o_).cell? ⟨g6, 2, none⟩ = some (.int .i64 x.f1.f0) := fun o_ => (blk_cell (blk_alloc m6 o_) 2).trans rfl
  have c6_3 : ∀ o_, (W.alloc o_).cell? ⟨g6, 3, none⟩ = some (.int .i64 x.f1.f1) := fun o_ => (blk_cell (blk_alloc m6 o_) 3).trans rfl
  have c5_1 : ∀ o_, (W.alloc o_).cell? ⟨g5, 0, none⟩ = some (.pointer (some ⟨b, 0, none⟩)) := fun o_ => (blk_cell (blk_alloc m5 o_) 0).trans rfl
  have hjj : j0 ≤ j := by have := HJ.out; omega
  by_cases hlt : j ≤ j1
  case neg =>
    have hqe : q = (j1 + 1 - j0).toNat := by have := HJ.out; omega
    have HQ := Lib.hid hqe
    clear hqe c5_1 c6_0 c6_1 c6_2 c6_3
    have HRR := HR.out
    rw [← HQ.out] at HRR
    have HR2 := Lib.hid HRR
    clear HRR
    generalize (boxesL s x layer j0 q) = L at *
    have c10_0 := (blk_cell m10 0).trans rfl
    have f10_0 := blk_frozen m10 0
    have c10_1 := (blk_cell m10 1).trans rfl
    have f10_1 := blk_frozen m10 1
    have c10_2 := (blk_cell m10 2).trans rfl
    have f10_2 := blk_frozen m10 2
    have c10_3 := (blk_cell m10 3).trans rfl
    have f10_3 := blk_frozen m10 3
    skip
    gi_wp2
    exact leaves_marks (fun X => Blk X g10 #[.int .i64 (outV L).f0.f0, .int .i64 (outV L).f0.f1, .int .i64 (outV L).f1.f0, .int .i64 (outV L).f1.f1] 31 ∧ Below w.heap.size w X) (fun X D_ h hB hD => ⟨(World.putObj_heap_other (fun e => by have h1 := h.1; unfold Blk at h1; rw [e, hD] at h1; cases h1)).trans h.1, h.2.trans (belowK_b (w := w) (Nat.le_refl _) X D_ _ _ hB hD rfl rfl)⟩) (fun X h => ⟨_, results_cell_row rfl _ _ g10 31 #[.int .i64 (outV L).f0.f0, .int .i64 (outV L).f0.f1, .int .i64 (outV L).f1.f0, .int .i64 (outV L).f1.f1] (0, 0) _ rfl h.1 Try.underlying31 rfl (by kernel_rfl), by rw [HR2.out]; rfl, h.2⟩) Ds _ (Marks.set (Marks.set (Marks.set (Marks.set hM m10 (i := 0) _) (blk_put m10 0 (.int .i64 (outV L).f0.f0) rfl) (i := 1) _) (blk_put (blk_put m10 0 (.int .i64 (outV L).f0.f0) rfl) 1 (.int .i64 (outV L).f0.f1) rfl) (i := 2) _) (blk_put (blk_put (blk_put m10 0 (.int .i64 (outV L).f0.f0) rfl) 1 (.int .i64 (outV L).f0.f1) rfl) 2 (.int .i64 (outV L).f1.f0) rfl) (i := 3) _) ⟨(blk_put (blk_put (blk_put (blk_put m10 0 (.int .i64 (outV L).f0.f0) rfl) 1 (.int .i64 (outV L).f0.f1) rfl) 2 (.int .i64 (outV L).f1.f0) rfl) 3 (.int .i64 (outV L).f1.f1) rfl), (Below.setCell (p := ⟨g10, 3, none⟩) (Below.setCell (p := ⟨g10, 2, none⟩) (Below.setCell (p := ⟨g10, 1, none⟩) (Below.setCell (p := ⟨g10, 0, none⟩) mB hG10 _) hG10 _) hG10 _) hG10 _)⟩
  case pos =>
    skip
    have hq2 : q + 1 ≤ (j1 + 1 - j0).toNat := by have := HJ.out; omega
    have HJ2 : Hid (j + 1 = j0 + ((q + 1 : Nat) : Int)) := Lib.hid (by have := HJ.out; omega)
    have p1 := mul_in (show 0 ≤ j by omega) (show j ≤ 15 by omega) (show 0 ≤ s.layers by omega) hla.2
    have p2 := mul_in (show 0 ≤ j * s.layers + layer by omega) (show j * s.layers + layer ≤ 50 by omega) hxy.1 hxy.2
    gi_wp2_with fail
    refine ⟨trivial, (callsIn_wide.2 (touched_any _ _ _)).mono ?_⟩
    rintro e W_ ⟨rfl, rfl⟩
    gi_wp2_with fail
    clear cT3 cT5 c5_0 c5_1 c6_0 c6_1 c6_2 c6_3
    have hnx_ := hS.nx
    have hM0 : Marks (((W.alloc (.cells #[.int .i64 ((j * s.layers + layer) * (s.nx * s.ny))] 3)).alloc (.cells #[.pointer (some ⟨b, 0, none⟩)] 104)).alloc (.cells #[.int .i64 x.f0.f0, .int .i64 x.f0.f1, .int .i64 x.f1.f0, .int .i64 x.f1.f1] 31)) w.heap.size Ds := hM.below (below_alloc (below_alloc (below_alloc (Below.refl _ W) _) _) _)
    have hl_T := blk_lt mT
    have hl_5 := blk_lt m5
    have hl_6 := blk_lt m6
    have hl_10 := blk_lt m10
    have hl_12 := blk_lt m12
    have m14 : Blk (((W.alloc (.cells #[.int .i64 ((j * s.layers + layer) * (s.nx * s.ny))] 3)).alloc (.cells #[.pointer (some ⟨b, 0, none⟩)] 104)).alloc (.cells #[.int .i64 x.f0.f0, .int .i64 x.f0.f1, .int .i64 x.f1.f0, .int .i64 x.f1.f1] 31)) (W.heap.size) #[.int .i64 ((j * s.layers + layer) * (s.nx * s.ny))] 3 := (blk_alloc (blk_alloc (by have h_ := blk_new W (.cells #[.int .i64 ((j * s.layers + layer) * (s.nx * s.ny))] 3); first | exact h_ | (simp only [World.size_alloc] at h_; exact h_)) _) _)
    have mP : Blk (((W.alloc (.cells #[.int .i64 ((j * s.layers + layer) * (s.nx * s.ny))] 3)).alloc (.cells #[.pointer (some ⟨b, 0, none⟩)] 104)).alloc (.cells #[.int .i64 x.f0.f0, .int .i64 x.f0.f1, .int .i64 x.f1.f0, .int .i64 x.f1.f1] 31)) (W.heap.size + 1) #[.pointer (some ⟨b, 0, none⟩)] 104 := (blk_alloc (by have h_ := blk_new (W.alloc (.cells #[.int .i64 ((j * s.layers + layer) * (s.nx * s.ny))] 3)) (.cells #[.pointer (some ⟨b, 0, none⟩)] 104); first | exact h_ | (simp only [World.size_alloc] at h_; exact h_)) _)
    have mX : Blk (((W.alloc (.cells #[.int .i64 ((j * s.layers + layer) * (s.nx * s.ny))] 3)).alloc (.cells #[.pointer (some ⟨b, 0, none⟩)] 104)).alloc (.cells #[.int .i64 x.f0.f0, .int .i64 x.f0.f1, .int .i64 x.f1.f0, .int .i64 x.f1.f1] 31)) (W.heap.size + 1 + 1) #[.int .i64 x.f0.f0, .int .i64 x.f0.f1, .int .i64 x.f1.f0, .int .i64 x.f1.f1] 31 := (by have h_ := blk_new ((W.alloc (.cells #[.int .i64 ((j * s.layers + layer) * (s.nx * s.ny))] 3)).alloc (.cells #[.pointer (some ⟨b, 0, none⟩)] 104)) (.cells #[.int .i64 x.f0.f0, .int .i64 x.f0.f1, .int .i64 x.f1.f0, .int .i64 x.f1.f1] 31); first | exact h_ | (simp only [World.size_alloc] at h_; exact h_))
    replace mT : Blk (((W.alloc (.cells #[.int .i64 ((j * s.layers + layer) * (s.nx * s.ny))] 3)).alloc (.cells #[.pointer (some ⟨b, 0, none⟩)] 104)).alloc (.cells #[.int .i64 x.f0.f0, .int .i64 x.f0.f1, .int .i64 x.f1.f0, .int .i64 x.f1.f1] 31)) b #[.int .i64 s.nx, .int .i64 s.ny, .int .i64 s.cell, .int .i64 s.slot, .int .i64 s.slots, .int .i64 s.layers, .int .i64 s.most, .slice A7 s.shores.length c7, .slice A8 s.currents.length c8, .int .i64 v.speed, .int .i64 v.dive, .int .i64 v.use.f0, .int .i64 v.use.f1, .int .i64 v.drift.f0, .int .i64 v.drift.f1, .int .i64 v.reserve] 110 := (blk_alloc (blk_alloc (blk_alloc mT _) _) _)
    replace m5 : Blk (((W.alloc (.cells #[.int .i64 ((j * s.layers + layer) * (s.nx * s.ny))] 3)).alloc (.cells #[.pointer (some ⟨b, 0, none⟩)] 104)).alloc (.cells #[.int .i64 x.f0.f0, .int .i64 x.f0.f1, .int .i64 x.f1.f0, .int .i64 x.f1.f1] 31)) g5 #[.pointer (some ⟨b, 0, none⟩)] 104 := (blk_alloc (blk_alloc (blk_alloc m5 _) _) _)
    replace m6 : Blk (((W.alloc (.cells #[.int .i64 ((j * s.layers + layer) * (s.nx * s.ny))] 3)).alloc (.cells #[.pointer (some ⟨b, 0, none⟩)] 104)).alloc (.cells #[.int .i64 x.f0.f0, .int .i64 x.f0.f1, .int .i64 x.f1.f0, .int .i64 x.f1.f1] 31)) g6 #[.int .i64 x.f0.f0, .int .i64 x.f0.f1, .int .i64 x.f1.f0, .int .i64 x.f1.f1] 31 := (blk_alloc (blk_alloc (blk_alloc m6 _) _) _)
    replace m10 : Blk (((W.alloc (.cells #[.int .i64 ((j * s.layers + layer) * (s.nx * s.ny))] 3)).alloc (.cells #[.pointer (some ⟨b, 0, none⟩)] 104)).alloc (.cells #[.int .i64 x.f0.f0, .int .i64 x.f0.f1, .int .i64 x.f1.f0, .int .i64 x.f1.f1] 31)) g10 #[.int .i64 (outV (boxesL s x layer j0 q)).f0.f0, .int .i64 (outV (boxesL s x layer j0 q)).f0.f1, .int .i64 (outV (boxesL s x layer j0 q)).f1.f0, .int .i64 (outV (boxesL s x layer j0 q)).f1.f1] 31 := (blk_alloc (blk_alloc (blk_alloc m10 _) _) _)
    replace m12 : Blk (((W.alloc (.cells #[.int .i64 ((j * s.layers + layer) * (s.nx * s.ny))] 3)).alloc (.cells #[.pointer (some ⟨b, 0, none⟩)] 104)).alloc (.cells #[.int .i64 x.f0.f0, .int .i64 x.f0.f1, .int .i64 x.f1.f0, .int .i64 x.f1.f1] 31)) g12 #[.bool (hullL (boxesL s x layer j0 q)).isNone] 4 := (blk_alloc (blk_alloc (blk_alloc m12 _) _) _)
    replace mB : Below w.heap.size w (((W.alloc (.cells #[.int .i64 ((j * s.layers + layer) * (s.nx * s.ny))] 3)).alloc (.cells #[.pointer (some ⟨b, 0, none⟩)] 104)).alloc (.cells #[.int .i64 x.f0.f0, .int .i64 x.f0.f1, .int .i64 x.f1.f0, .int .i64 x.f1.f1] 31)) := (below_alloc (below_alloc (below_alloc mB _) _) _)
    have hsz_ : w.heap.size ≤ W.heap.size := hs_W
    generalize hW_ : (((W.alloc (.cells #[.int .i64 ((j * s.layers + layer) * (s.nx * s.ny))] 3)).alloc (.cells #[.pointer (some ⟨b, 0, none⟩)] 104)).alloc (.cells #[.int .i64 x.f0.f0, .int .i64 x.f0.f1, .int .i64 x.f1.f0, .int .i64 x.f1.f1] 31)) = W0 at mT m5 m6 m10 m12 m14 mP mX mB hM0 ⊢
    clear hW_
    generalize hg14 : W.heap.size = g14 at m14 mP mX ⊢
    have hn_T_14 : b ≠ g14 := by omega
    have hn_5_14 : g5 ≠ g14 := by omega
    have hn_6_14 : g6 ≠ g14 := by omega
    have hn_10_14 : g10 ≠ g14 := by omega
    have hn_12_14 : g12 ≠ g14 := by omega
    have hn_14_T : g14 ≠ b := hn_T_14.symm
    have hn_14_5 : g14 ≠ g5 := hn_5_14.symm
    have hn_14_6 : g14 ≠ g6 := hn_6_14.symm
    have hn_14_10 : g14 ≠ g10 := hn_10_14.symm
    have hn_14_12 : g14 ≠ g12 := hn_12_14.symm
    have hG14 : w.heap.size ≤ g14 := by omega
    generalize hgP : g14 + 1 = gP at mP mX ⊢
    have hn_T_P : b ≠ gP := by omega
    have hn_5_P : g5 ≠ gP := by omega
    have hn_6_P : g6 ≠ gP := by omega
    have hn_10_P : g10 ≠ gP := by omega
    have hn_12_P : g12 ≠ gP := by omega
    have hn_14_P : g14 ≠ gP := by omega
    have hn_P_T : gP ≠ b := hn_T_P.symm
    have hn_P_5 : gP ≠ g5 := hn_5_P.symm
    have hn_P_6 : gP ≠ g6 := hn_6_P.symm
    have hn_P_10 : gP ≠ g10 := hn_10_P.symm
    have hn_P_12 : gP ≠ g12 := hn_12_P.symm
    have hn_P_14 : gP ≠ g14 := hn_14_P.symm
    have hGP : w.heap.size ≤ gP := by omega
    generalize hgX : gP + 1 = gX at mX ⊢
    have hn_T_X : b ≠ gX := by omega
    have hn_5_X : g5 ≠ gX := by omega
    have hn_6_X : g6 ≠ gX := by omega
    have hn_10_X : g10 ≠ gX := by omega
    have hn_12_X : g12 ≠ gX := by omega
    have hn_14_X : g14 ≠ gX := by omega
    have hn_P_X : gP ≠ gX := by omega
    have hn_X_T : gX ≠ b := hn_T_X.symm
    have hn_X_5 : gX ≠ g5 := hn_5_X.symm
    have hn_X_6 : gX ≠ g6 := hn_6_X.symm
    have hn_X_10 : gX ≠ g10 := hn_10_X.symm
    have hn_X_12 : gX ≠ g12 := hn_12_X.symm
    have hn_X_14 : gX ≠ g14 := hn_14_X.symm
    have hn_X_P : gX ≠ gP := hn_P_X.symm
    have hGX : w.heap.size ≤ gX := by omega
    clear hsz_ hl_T hl_5 hl_6 hl_10 hl_12
    try clear hgX
    try clear hgP
    try clear hg14
    have hs_W0 : w.heap.size ≤ W0.heap.size := mB.size
    have hDs : ∀ D_ ∈ Ds, D_ < W0.heap.size := fun D_ h => (Array.getElem?_eq_some_iff.1 (hM0.2 D_ h).2).1
    have HN : Hid (g5 ≠ g10 ∧ g5 ≠ g12 ∧ g6 ≠ g10 ∧ g6 ≠ g12 ∧ g14 ≠ g10 ∧ g14 ≠ g12 ∧ g10 ≠ g12 ∧ g12 ≠ g10 ∧ gP ≠ g10 ∧ gX ≠ g10 ∧ gP ≠ g12 ∧ gX ≠ g12) := Lib.hid ⟨hn_5_10, hn_5_12, hn_6_10, hn_6_12, hn_14_10, hn_14_12, hn_10_12, hn_12_10, hn_P_10, hn_X_10, hn_P_12, hn_X_12⟩
    try clear hn_T_5
    try clear hn_T_6
    try clear hn_T_10
    try clear hn_T_12
    try clear hn_T_14
    try clear hn_T_P
    try clear hn_T_X
    try clear hn_5_T
    try clear hn_5_6
    try clear hn_5_10
    try clear hn_5_12
    try clear hn_5_14
    try clear hn_5_P
    try clear hn_5_X
    try clear hn_6_T
    try clear hn_6_5
    try clear hn_6_10
    try clear hn_6_12
    try clear hn_6_14
    try clear hn_6_P
    try clear hn_6_X
    try clear hn_10_T
    try clear hn_10_5
    try clear hn_10_6
    try clear hn_10_12
    try clear hn_10_14
    try clear hn_10_P
    try clear hn_10_X
    try clear hn_12_T
    try clear hn_12_5
    try clear hn_12_6
    try clear hn_12_10
    try clear hn_12_14
    try clear hn_12_P
    try clear hn_12_X
    try clear hn_14_T
    try clear hn_14_5
    try clear hn_14_6
    try clear hn_14_10
    try clear hn_14_12
    try clear hn_14_P
    try clear hn_14_X
    try clear hn_P_T
    try clear hn_P_5
    try clear hn_P_6
    try clear hn_P_10
    try clear hn_P_12
    try clear hn_P_14
    try clear hn_P_X
    try clear hn_X_T
    try clear hn_X_5
    try clear hn_X_6
    try clear hn_X_10
    try clear hn_X_12
    try clear hn_X_14
    try clear hn_X_P
    refine wpIn_rangeFunc_ownH rfl (by omega) (gf := 135) (lb := #[.pointer (some ⟨gP, 0, none⟩), .pointer (some ⟨gX, 0, none⟩)]) rfl trivial (enters_of Try.func135 (by kernel_rfl) rfl)
      (encs := fun c : CellN s => #[.int .i64 c.1]) (Kp := KpT w gP gX b x) (S := AllT s x) (Sp := PreT s x) (N := (touchL s x).length) (w0 := W0)
      (fun l J Jx X_ hW hJ _ hY h0 => touched1_in 5 (by omega) l gP gX w b s v x hT hS hx (KpT w gP gX b x) (fun A B h hE => ⟨hE.1.trans h.1, h.2.1 hE.2.1, h.2.2 hE.2.2⟩) J Jx hY (fun f X Y h hB => hJ f X Y none h ⟨hB.os, hB.tape, hB.output, hB.size, fun k hk _ => hB.block k hk⟩ (fun r e => by cases e)) X_ ⟨below_step mB hW, Blk.belowH mP hW, Blk.belowH mX hW⟩ h0) KpT.trans (KpT.put hs_W0 (blk_lt mP) (blk_lt mX)) (Below.refl _ _) (fun _ => rfl)
      (fun pre W => Blk W g5 #[.pointer (some ⟨b, 0, none⟩)] 104 ∧ Blk W g6 #[.int .i64 x.f0.f0, .int .i64 x.f0.f1, .int .i64 x.f1.f0, .int .i64 x.f1.f1] 31 ∧ Blk W g14 #[.int .i64 ((j * s.layers + layer) * (s.nx * s.ny))] 3 ∧ Blk W g10 #[.int .i64 (outV (boxesL s x layer j0 q ++ (pre.map fun c => curB s layer j c.1))).f0.f0, .int .i64 (outV (boxesL s x layer j0 q ++ (pre.map fun c => curB s layer j c.1))).f0.f1, .int .i64 (outV (boxesL s x layer j0 q ++ (pre.map fun c => curB s layer j c.1))).f1.f0, .int .i64 (outV (boxesL s x layer j0 q ++ (pre.map fun c => curB s layer j c.1))).f1.f1] 31 ∧ Blk W g12 #[.bool (hullL (boxesL s x layer j0 q ++ (pre.map fun c => curB s layer j c.1))).isNone] 4 ∧ Marks W w.heap.size Ds ∧ Below w.heap.size w W)
      (fun c pre W => False)
      (OwnFrom.and (blk_ownFrom _ _ (fun _ => _) _) (OwnFrom.and (blk_ownFrom _ _ (fun _ => _) _) (OwnFrom.and (blk_ownFrom _ _ (fun _ => _) _) (OwnFrom.and (blk_ownFrom _ _ (fun pre : List (CellN s) => #[.int .i64 (outV (boxesL s x layer j0 q ++ (pre.map fun c => curB s layer j c.1))).f0.f0, .int .i64 (outV (boxesL s x layer j0 q ++ (pre.map fun c => curB s layer j c.1))).f0.f1, .int .i64 (outV (boxesL s x layer j0 q ++ (pre.map fun c => curB s layer j c.1))).f1.f0, .int .i64 (outV (boxesL s x layer j0 q ++ (pre.map fun c => curB s layer j c.1))).f1.f1]) _) (OwnFrom.and (blk_ownFrom _ _ (fun pre : List (CellN s) => #[.bool (hullL (boxesL s x layer j0 q ++ (pre.map fun c => curB s layer j c.1))).isNone]) _) (OwnFrom.and (marks_ownFrom _ _ Ds hDs) (ownFrom_below (by omega) (by omega))))))))
      (fun c pre X Y row hs hg hr => hs)
      ⟨m5, m6, m14, by rw [List.map_nil, List.append_nil]; exact m10, by rw [List.map_nil, List.append_nil]; exact m12, hM0, mB⟩
      (fun c a' W => ∃ u_ : Nat → Value, a' = { tmps := #[(u_ 0), (u_ 1), (u_ 2), (u_ 3), (u_ 4), .pointer (some ⟨g5, 0, none⟩), (u_ 6), (u_ 7), (u_ 8), (u_ 9), .pointer (some ⟨g10, 0, none⟩), (u_ 11), .pointer (some ⟨g12, 0, none⟩), (u_ 13), .pointer (some ⟨g14, 0, none⟩), .int .i64 c.1, (u_ 16), (u_ 17), (u_ 18), (u_ 19), (u_ 20), (u_ 21), (u_ 22), (u_ 23), (u_ 24), (u_ 25), (u_ 26), (u_ 27), (u_ 28), (u_ 29), (u_ 30), (u_ 31), (u_ 32), (u_ 33), (u_ 34), (u_ 35), (u_ 36), (u_ 37), (u_ 38), (u_ 39), (u_ 40), (u_ 41), (u_ 42), (u_ 43), (u_ 44), (u_ 45), (u_ 46), (u_ 47), (u_ 48), (u_ 49), (u_ 50), (u_ 51), (u_ 52), (u_ 53), (u_ 54), (u_ 55), (u_ 56), (u_ 57), (u_ 58), (u_ 59), (u_ 60), (u_ 61), (u_ 62), (u_ 63), (u_ 64), (u_ 65), (u_ 66), (u_ 67), (u_ 68), (u_ 69), (u_ 70), (u_ 71), (u_ 72), (u_ 73), (u_ 74), (u_ 75), (u_ 76), (u_ 77), (u_ 78), (u_ 79), (u_ 80), (u_ 81), (u_ 82), (u_ 83), (u_ 84), (u_ 85), (u_ 86), (u_ 87), (u_ 88), (u_ 89), (u_ 90), (u_ 91)], defers := [] })
      (fun c a' s X Y row hs hg hr => hs) ?assign ?body ?done ?stop
    case assign =>
      rintro l pre c X_ K hI hK
      gi_wp2
      exact hK _ _ ((KeepsOthers.refl X_).from _) (KpT.below hI.2.2.2.2.2.2.size (Below.refl _ _)) hI ⟨(fun k => (#[(u_ 0), (u_ 1), .int .i64 layer, (u_ 3), .int .i64 u, .pointer (some ⟨g5, 0, none⟩), .pointer (some ⟨g6, 0, none⟩), (u_ 7), (u_ 8), (u_ 9), .pointer (some ⟨g10, 0, none⟩), .int .i64 (s.nx * s.ny), .pointer (some ⟨g12, 0, none⟩), .int .i64 j, .pointer (some ⟨g14, 0, none⟩), .int .i64 c.1, (u_ 16), (u_ 17), (u_ 18), (u_ 19), (u_ 20), (u_ 21), (u_ 22), (u_ 23), (u_ 24), (u_ 25), (u_ 26), (u_ 27), (u_ 28), (u_ 29), (u_ 30), (u_ 31), (u_ 32), (u_ 33), (u_ 34), .int .i64 j, .int .i64 u, .int .i64 (u - 1), .pointer (some ⟨b, 0, none⟩), .pointer (some ⟨b, 0, none⟩), .pointer (some ⟨b, 0, none⟩), .pointer (some ⟨b, 3, none⟩), .int .i64 s.slot, .int .i64 j1, .bool true, (u_ 45), (u_ 46), .int .i64 j, .pointer (some ⟨b, 0, none⟩), .pointer (some ⟨b, 0, none⟩), .pointer (some ⟨b, 0, none⟩), .pointer (some ⟨b, 5, none⟩), .int .i64 s.layers, .int .i64 (j * s.layers), .int .i64 layer, .int .i64 (j * s.layers + layer), .int .i64 (s.nx * s.ny), .int .i64 ((j * s.layers + layer) * (s.nx * s.ny)), .pointer (some ⟨b, 0, none⟩), .agg #[.int .i64 x.f0.f0, .int .i64 x.f0.f1, .int .i64 x.f1.f0, .int .i64 x.f1.f1], .func (.func 135) #[] #[.pointer (some ⟨gP, 0, none⟩), .pointer (some ⟨gX, 0, none⟩)], .int .i64 c.1, (u_ 62), (u_ 63), (u_ 64), (u_ 65), (u_ 66), (u_ 67), (u_ 68), (u_ 69), (u_ 70), (u_ 71), (u_ 72), (u_ 73), (u_ 74), (u_ 75), (u_ 76), (u_ 77), (u_ 78), (u_ 79), (u_ 80), (u_ 81), (u_ 82), (u_ 83), (u_ 84), (u_ 85), (u_ 86), (u_ 87), (u_ 88), (u_ 89), (u_ 90), (u_ 91)] : Array Value).getD k undef), rfl⟩
    case stop =>
      rintro D_ c pre X_ hD hp h hK
      exact h.elim
    case done =>
      rintro D_ xs X_ hD hxs ⟨m5, m6, m14, m10, m12, hM, mB⟩ hK
      have hL : boxesL s x layer j0 q ++ xs.map (fun c => curB s layer j c.1) = boxesL s x layer j0 (q + 1) := by rw [boxesL_succ]; unfold slotL; rw [← (show xs.map Subtype.val = touchL s x from hxs), List.map_map, ← HJ.out]; rfl
      rw [hL] at m10 m12
      clear hL
      have hM2 := hM.cons (fun h => absurd (hDs D_ h) (Nat.not_lt.2 hD)) (Nat.le_trans hs_W0 hD) hK
      gi_wp2
      skip
      exact ⟨⟨q + 1, j + 1, D_ :: Ds, (fun k => (#[(u_ 0), (u_ 1), .int .i64 layer, (u_ 3), .int .i64 u, .pointer (some ⟨g5, 0, none⟩), .pointer (some ⟨g6, 0, none⟩), (u_ 7), (u_ 8), (u_ 9), .pointer (some ⟨g10, 0, none⟩), .int .i64 (s.nx * s.ny), .pointer (some ⟨g12, 0, none⟩), .int .i64 (j + 1), .pointer (some ⟨g14, 0, none⟩), (u_ 15), (u_ 16), (u_ 17), (u_ 18), (u_ 19), (u_ 20), (u_ 21), (u_ 22), (u_ 23), (u_ 24), (u_ 25), (u_ 26), (u_ 27), (u_ 28), (u_ 29), (u_ 30), (u_ 31), (u_ 32), (u_ 33), (u_ 34), .int .i64 j, .int .i64 u, .int .i64 (u - 1), .pointer (some ⟨b, 0, none⟩), .pointer (some ⟨b, 0, none⟩), .pointer (some ⟨b, 0, none⟩), .pointer (some ⟨b, 3, none⟩), .int .i64 s.slot, .int .i64 j1, .bool true, .int .i64 j, .int .i64 (j + 1), .int .i64 j, .pointer (some ⟨b, 0, none⟩), .pointer (some ⟨b, 0, none⟩), .pointer (some ⟨b, 0, none⟩), .pointer (some ⟨b, 5, none⟩), .int .i64 s.layers, .int .i64 (j * s.layers), .int .i64 layer, .int .i64 (j * s.layers + layer), .int .i64 (s.nx * s.ny), .int .i64 ((j * s.layers + layer) * (s.nx * s.ny)), .pointer (some ⟨b, 0, none⟩), .agg #[.int .i64 x.f0.f0, .int .i64 x.f0.f1, .int .i64 x.f1.f0, .int .i64 x.f1.f1], .func (.func 135) #[] #[.pointer (some ⟨gP, 0, none⟩), .pointer (some ⟨gX, 0, none⟩)], (u_ 61), (u_ 62), (u_ 63), (u_ 64), (u_ 65), (u_ 66), (u_ 67), (u_ 68), (u_ 69), (u_ 70), (u_ 71), (u_ 72), (u_ 73), (u_ 74), (u_ 75), (u_ 76), (u_ 77), (u_ 78), (u_ 79), (u_ 80), (u_ 81), (u_ 82), (u_ 83), (u_ 84), (u_ 85), (u_ 86), (u_ 87), (u_ 88), (u_ 89), (u_ 90), (u_ 91)] : Array Value).getD k undef), rfl, HJ2, hq2, hM2, m5, m6, m10, m12, mB⟩, by simp [intOf]; omega⟩
    case body =>
      skip
      rintro l pre c a_ X_ hlW ⟨r, hr⟩ ⟨m5, m6, m14, m10, m12, hM, mB⟩ ⟨u_, rfl⟩ hlen
      have hXs : W0.heap.size ≤ X_.heap.size := Nat.le_trans hlW (Nat.le_of_lt (blk_lt hr))
      clear hr
      have hN : Below X_.heap.size X_ X_ := Below.refl _ _
      obtain ⟨A7, c7, A8, c8, mT, _, _, hc8, hC8⟩ := hT.below mB
      have hidx := index_in (q := j) (l := layer) (k := s.nx * s.ny) (c := c.1) (ll := s.slots) (kk := s.layers) (by omega) (by omega) hl0 hl1 c.2.1 c.2.2
      rw [← HCU.out] at hidx
      have HY : Hid (curB s layer j c.1 = ⟨(rd_T40 s.currents ((j * s.layers + layer) * (s.nx * s.ny) + c.1)).f0, (rd_T40 s.currents ((j * s.layers + layer) * (s.nx * s.ny) + c.1)).f1⟩) := Lib.hid rfl
      obtain ⟨hi0, hi1⟩ := hidx
      obtain ⟨ad, e_, hy0, hy1, hy2, hy3⟩ := at_T40 hC8 _ hi0 hi1
      cases e_
      clear hC8
      generalize rd_T40 s.currents ((j * s.layers + layer) * (s.nx * s.ny) + c.1) = y at *
      generalize (j * s.layers + layer) * (s.nx * s.ny) = R at *
      have wR : wrap64 (R + c.1) = R + c.1 := by unfold wrap64; have := c.2; omega
      have hm0 : hullL (boxesL s x layer j0 q ++ (pre.map fun c => curB s layer j c.1)) = hullL (boxesL s x layer j0 q ++ (pre.map fun c => curB s layer j c.1)) := rfl
      generalize hLL_ : (boxesL s x layer j0 q ++ (pre.map fun c => curB s layer j c.1)) = L at *
      have hLL := Lib.hid hLL_
      clear hm0 hLL_
      gi_wp2_with fail
      replace mT := blk_drew mT
      replace m5 := blk_drew m5
      replace m6 := blk_drew m6
      replace m10 := blk_drew m10
      replace m12 := blk_drew m12
      replace m14 := blk_drew m14
      replace mB := below_drew1 mB
      replace hy0 := ((below_drew1 (Below.refl X_.heap.size X_)).cell (World.block_lt_of_cell? X_ _ hy0)).trans hy0
      replace hy1 := ((below_drew1 (Below.refl X_.heap.size X_)).cell (World.block_lt_of_cell? X_ _ hy1)).trans hy1
      replace hy2 := ((below_drew1 (Below.refl X_.heap.size X_)).cell (World.block_lt_of_cell? X_ _ hy2)).trans hy2
      replace hy3 := ((below_drew1 (Below.refl X_.heap.size X_)).cell (World.block_lt_of_cell? X_ _ hy3)).trans hy3
      replace hM := hM.below (below_drew1 (Below.refl _ X_))
      replace hN := below_drew1 hN
      refine startIn_ (m := 25) (S := fun w' => w'.cell? ⟨g5, 0, none⟩ = some (.pointer (some ⟨b, 0, none⟩)) ∧ w'.cell? ⟨g14, 0, none⟩ = some (.int .i64 R) ∧ w'.cell? ⟨b, 8, none⟩ = some (.slice (some ad) s.currents.length c8) ∧ w'.cell? (ad.add ((R + c.1).toNat * 4)) = some (.int .i64 y.f0.f0) ∧ w'.cell? ⟨(ad.add ((R + c.1).toNat * 4)).block, (ad.add ((R + c.1).toNat * 4)).off + 1, none⟩ = some (.int .i64 y.f0.f1) ∧ w'.cell? ⟨(ad.add ((R + c.1).toNat * 4)).block, (ad.add ((R + c.1).toNat * 4)).off + 2, none⟩ = some (.int .i64 y.f1.f0) ∧ w'.cell? ⟨(ad.add ((R + c.1).toNat * 4)).block, (ad.add ((R + c.1).toNat * 4)).off + 3, none⟩ = some (.int .i64 y.f1.f1)) (ds := [24]) #[false, false, false, false, false, false, false, false, false, false, false, false, false, false, false, false, false, false, false, false, false, false, false, false, false] (by kernel_rfl) (letsOut_then (letsOut_inBlock letsOut_ownG)) (by kernel_rfl) rfl rfl ⟨((blk_cell m5 0).trans rfl), ((blk_cell m14 0).trans rfl), ((blk_cell mT 8).trans rfl), hy0, hy1, hy2, hy3⟩ (fun hHeld => ?_)
      generalize hWd : World.drew _ = Wx at mB mT m5 m6 m10 m12 m14 hM hN hy0 hy1 hy2 hy3 hHeld ⊢
      clear hWd
      refine pure_ (i := 6) (N := some 68) (v := ?_) (a' := ?_) #[false, false, false, false, false, false, true, false, false, false, false, false, false, false, false, false, false, false, false, false, false, false, false, false, false] rfl rfl (by kernel_rfl) (fun _ _ _ h => h) (Or.inl ⟨by rfl, ?_⟩) ?_ ?_
      rotate_left
      · intro w'
        go_simp
        with_reducible rfl
      rotate_left
      · simp only [Act.put, List.setIfInBounds_toArray, List.set_cons_zero, List.set_cons_succ, i64_w, i32_w]
        rfl
      refine pure_ (i := 17) (N := some 79) (v := ?_) (a' := ?_) #[false, false, false, false, false, false, true, false, false, false, false, false, false, false, false, false, false, true, false, false, false, false, false, false, false] rfl rfl (by kernel_rfl) (fun _ _ _ h => h) (Or.inl ⟨by rfl, ?_⟩) ?_ ?_
      rotate_left
      · intro w'
        go_simp
        with_reducible rfl
      rotate_left
      · simp only [Act.put, List.setIfInBounds_toArray, List.set_cons_zero, List.set_cons_succ, i64_w, i32_w]
        rfl
      refine take_ (i := 0) (N := some 62) (v := ?_) (a' := ?_) #[true, false, false, false, false, false, true, false, false, false, false, false, false, false, false, false, false, true, false, false, false, false, false, false, false] rfl rfl (by kernel_rfl) (fun _ _ _ h => h) (Or.inl ⟨by rfl, ?_⟩) hHeld ?_ ?_
      rotate_left
      · rintro w' ⟨s0, s1, s2, s3, s4, s5, s6⟩
        go_simp
        with_reducible rfl
      rotate_left
      · simp only [Act.put, List.setIfInBounds_toArray, List.set_cons_zero, List.set_cons_succ, i64_w, i32_w]
        rfl
      refine pure_ (i := 1) (N := some 63) (v := ?_) (a' := ?_) #[true, true, false, false, false, false, true, false, false, false, false, false, false, false, false, false, false, true, false, false, false, false, false, false, false] rfl rfl (by kernel_rfl) (fun _ _ _ h => h) (Or.inl ⟨by rfl, ?_⟩) ?_ ?_
      rotate_left
      · intro w'
        go_simp
        with_reducible rfl
      rotate_left
      · simp only [Act.put, List.setIfInBounds_toArray, List.set_cons_zero, List.set_cons_succ, i64_w, i32_w]
        rfl
      refine pure_ (i := 2) (N := some 64) (v := ?_) (a' := ?_) #[true, true, true, false, false, false, true, false, false, false, false, false, false, false, false, false, false, true, false, false, false, false, false, false, false] rfl rfl (by kernel_rfl) (fun _ _ _ h => h) (Or.inl ⟨by rfl, ?_⟩) ?_ ?_
      rotate_left
      · intro w'
        go_simp
        with_reducible rfl
      rotate_left
      · simp only [Act.put, List.setIfInBounds_toArray, List.set_cons_zero, List.set_cons_succ, i64_w, i32_w]
        rfl
      refine pure_ (i := 3) (N := some 65) (v := ?_) (a' := ?_) #[true, true, true, true, false, false, true, false, false, false, false, false, false, false, false, false, false, true, false, false, false, false, false, false, false] rfl rfl (by kernel_rfl) (fun _ _ _ h => h) (Or.inl ⟨by rfl, ?_⟩) ?_ ?_
      rotate_left
      · intro w'
        go_simp
        with_reducible rfl
      rotate_left
      · simp only [Act.put, List.setIfInBounds_toArray, List.set_cons_zero, List.set_cons_succ, i64_w, i32_w]
        rfl
      refine take_ (i := 4) (N := some 66) (v := ?_) (a' := ?_) #[true, true, true, true, true, false, true, false, false, false, false, false, false, false, false, false, false, true, false, false, false, false, false, false, false] rfl rfl (by kernel_rfl) (fun _ _ _ h => h) (Or.inl ⟨by rfl, ?_⟩) hHeld ?_ ?_
      rotate_left
      · rintro w' ⟨s0, s1, s2, s3, s4, s5, s6⟩
        go_simp
        with_reducible rfl
      rotate_left
      · simp only [Act.put, List.setIfInBounds_toArray, List.set_cons_zero, List.set_cons_succ, i64_w, i32_w]
        rfl
      refine take_ (i := 5) (N := some 67) (v := ?_) (a' := ?_) #[true, true, true, true, true, true, true, false, false, false, false, false, false, false, false, false, false, true, false, false, false, false, false, false, false] rfl rfl (by kernel_rfl) (fun _ _ _ h => h) (Or.inl ⟨by rfl, ?_⟩) hHeld ?_ ?_
      rotate_left
      · rintro w' ⟨s0, s1, s2, s3, s4, s5, s6⟩
        go_simp
        with_reducible rfl
      rotate_left
      · simp only [Act.put, List.setIfInBounds_toArray, List.set_cons_zero, List.set_cons_succ, i64_w, i32_w]
        rfl
      refine pure_ (i := 7) (N := some 69) (v := ?_) (a' := ?_) #[true, true, true, true, true, true, true, true, false, false, false, false, false, false, false, false, false, true, false, false, false, false, false, false, false] rfl rfl (by kernel_rfl) (fun _ _ _ h => h) (Or.inl ⟨by rfl, ?_⟩) ?_ ?_
      rotate_left
      · intro w'
        go_simp
        with_reducible rfl
      rotate_left
      · simp only [Act.put, List.setIfInBounds_toArray, List.set_cons_zero, List.set_cons_succ, i64_w, i32_w]
        rfl
      refine pure_ (i := 8) (N := some 70) (v := ?_) (a' := ?_) #[true, true, true, true, true, true, true, true, true, false, false, false, false, false, false, false, false, true, false, false, false, false, false, false, false] rfl rfl (by kernel_rfl) (fun _ _ _ h => h) (Or.inl ⟨by rfl, ?_⟩) ?_ ?_
      rotate_left
      · intro w'
        go_simp
        with_reducible rfl
      rotate_left
      · simp only [Act.put, List.setIfInBounds_toArray, List.set_cons_zero, List.set_cons_succ, i64_w, i32_w]
        rfl
      refine pure_ (i := 9) (N := some 71) (v := ?_) (a' := ?_) #[true, true, true, true, true, true, true, true, true, true, false, false, false, false, false, false, false, true, false, false, false, false, false, false, false] rfl rfl (by kernel_rfl) (fun _ _ _ h => h) (Or.inl ⟨by rfl, ?_⟩) ?_ ?_
      rotate_left
      · intro w'
        go_simp
        with_reducible rfl
      rotate_left
      · simp only [Act.put, List.setIfInBounds_toArray, List.set_cons_zero, List.set_cons_succ, i64_w, i32_w]
        rfl
      refine take_ (i := 10) (N := some 72) (v := ?_) (a' := ?_) #[true, true, true, true, true, true, true, true, true, true, true, false, false, false, false, false, false, true, false, false, false, false, false, false, false] rfl rfl (by kernel_rfl) (fun _ _ _ h => h) (Or.inl ⟨by rfl, ?_⟩) hHeld ?_ ?_
      rotate_left
      · rintro w' ⟨s0, s1, s2, s3, s4, s5, s6⟩
        go_simp
        with_reducible rfl
      rotate_left
      · simp only [Act.put, List.setIfInBounds_toArray, List.set_cons_zero, List.set_cons_succ, i64_w, i32_w]
        rfl
      refine take_ (i := 11) (N := some 73) (v := ?_) (a' := ?_) #[true, true, true, true, true, true, true, true, true, true, true, true, false, false, false, false, false, true, false, false, false, false, false, false, false] rfl rfl (by kernel_rfl) (fun _ _ _ h => h) (Or.inl ⟨by rfl, ?_⟩) hHeld ?_ ?_
      rotate_left
      · rintro w' ⟨s0, s1, s2, s3, s4, s5, s6⟩
        go_simp
        with_reducible rfl
      rotate_left
      · simp only [Act.put, List.setIfInBounds_toArray, List.set_cons_zero, List.set_cons_succ, i64_w, i32_w]
        rfl
      refine pure_ (i := 12) (N := some 74) (v := ?_) (a' := ?_) #[true, true, true, true, true, true, true, true, true, true, true, true, true, false, false, false, false, true, false, false, false, false, false, false, false] rfl rfl (by kernel_rfl) (fun _ _ _ h => h) (Or.inl ⟨by rfl, ?_⟩) ?_ ?_
      rotate_left
      · intro w'
        go_simp
        with_reducible rfl
      rotate_left
      · simp only [Act.put, List.setIfInBounds_toArray, List.set_cons_zero, List.set_cons_succ, i64_w, i32_w]
        rfl
      refine pure_ (i := 13) (N := some 75) (v := ?_) (a' := ?_) #[true, true, true, true, true, true, true, true, true, true, true, true, true, true, false, false, false, true, false, false, false, false, false, false, false] rfl rfl (by kernel_rfl) (fun _ _ _ h => h) (Or.inl ⟨by rfl, ?_⟩) ?_ ?_
      rotate_left
      · intro w'
        go_simp
        with_reducible rfl
      rotate_left
      · simp only [Act.put, List.setIfInBounds_toArray, List.set_cons_zero, List.set_cons_succ, i64_w, i32_w]
        rfl
      refine pure_ (i := 14) (N := some 76) (v := ?_) (a' := ?_) #[true, true, true, true, true, true, true, true, true, true, true, true, true, true, true, false, false, true, false, false, false, false, false, false, false] rfl rfl (by kernel_rfl) (fun _ _ _ h => h) (Or.inl ⟨by rfl, ?_⟩) ?_ ?_
      rotate_left
      · intro w'
        go_simp
        with_reducible rfl
      rotate_left
      · simp only [Act.put, List.setIfInBounds_toArray, List.set_cons_zero, List.set_cons_succ, i64_w, i32_w]
        rfl
      refine take_ (i := 15) (N := some 77) (v := ?_) (a' := ?_) #[true, true, true, true, true, true, true, true, true, true, true, true, true, true, true, true, false, true, false, false, false, false, false, false, false] rfl rfl (by kernel_rfl) (fun _ _ _ h => h) (Or.inl ⟨by rfl, ?_⟩) hHeld ?_ ?_
      rotate_left
      · rintro w' ⟨s0, s1, s2, s3, s4, s5, s6⟩
        go_simp
        with_reducible rfl
      rotate_left
      · simp only [Act.put, List.setIfInBounds_toArray, List.set_cons_zero, List.set_cons_succ, i64_w, i32_w]
        rfl
      refine take_ (i := 16) (N := some 78) (v := ?_) (a' := ?_) #[true, true, true, true, true, true, true, true, true, true, true, true, true, true, true, true, true, true, false, false, false, false, false, false, false] rfl rfl (by kernel_rfl) (fun _ _ _ h => h) (Or.inl ⟨by rfl, ?_⟩) hHeld ?_ ?_
      rotate_left
      · rintro w' ⟨s0, s1, s2, s3, s4, s5, s6⟩
        go_simp
        with_reducible rfl
      rotate_left
      · simp only [Act.put, List.setIfInBounds_toArray, List.set_cons_zero, List.set_cons_succ, i64_w, i32_w]
        rfl
      refine pure_ (i := 18) (N := some 80) (v := ?_) (a' := ?_) #[true, true, true, true, true, true, true, true, true, true, true, true, true, true, true, true, true, true, true, false, false, false, false, false, false] rfl rfl (by kernel_rfl) (fun _ _ _ h => h) (Or.inl ⟨by rfl, ?_⟩) ?_ ?_
      rotate_left
      · intro w'
        go_simp
        with_reducible rfl
      rotate_left
      · simp only [Act.put, List.setIfInBounds_toArray, List.set_cons_zero, List.set_cons_succ, i64_w, i32_w]
        rfl
      refine pure_ (i := 19) (N := some 81) (v := ?_) (a' := ?_) #[true, true, true, true, true, true, true, true, true, true, true, true, true, true, true, true, true, true, true, true, false, false, false, false, false] rfl rfl (by kernel_rfl) (fun _ _ _ h => h) (Or.inl ⟨by rfl, ?_⟩) ?_ ?_
      rotate_left
      · intro w'
        go_simp
        with_reducible rfl
      rotate_left
      · simp only [Act.put, List.setIfInBounds_toArray, List.set_cons_zero, List.set_cons_succ, i64_w, i32_w]
        rfl
      refine pure_ (i := 20) (N := some 82) (v := ?_) (a' := ?_) #[true, true, true, true, true, true, true, true, true, true, true, true, true, true, true, true, true, true, true, true, true, false, false, false, false] rfl rfl (by kernel_rfl) (fun _ _ _ h => h) (Or.inl ⟨by rfl, ?_⟩) ?_ ?_
      rotate_left
      · intro w'
        go_simp
        with_reducible rfl
      rotate_left
      · simp only [Act.put, List.setIfInBounds_toArray, List.set_cons_zero, List.set_cons_succ, i64_w, i32_w]
        rfl
      refine take_ (i := 21) (N := some 83) (v := ?_) (a' := ?_) #[true, true, true, true, true, true, true, true, true, true, true, true, true, true, true, true, true, true, true, true, true, true, false, false, false] rfl rfl (by kernel_rfl) (fun _ _ _ h => h) (Or.inl ⟨by rfl, ?_⟩) hHeld ?_ ?_
      rotate_left
      · rintro w' ⟨s0, s1, s2, s3, s4, s5, s6⟩
        go_simp
        with_reducible rfl
      rotate_left
      · simp only [Act.put, List.setIfInBounds_toArray, List.set_cons_zero, List.set_cons_succ, i64_w, i32_w]
        rfl
      refine pure_ (i := 22) (N := some 84) (v := ?_) (a' := ?_) #[true, true, true, true, true, true, true, true, true, true, true, true, true, true, true, true, true, true, true, true, true, true, true, false, false] rfl rfl (by kernel_rfl) (fun _ _ _ h => h) (Or.inl ⟨by rfl, ?_⟩) ?_ ?_
      rotate_left
      · intro w'
        go_simp
        with_reducible rfl
      rotate_left
      · simp only [Act.put, List.setIfInBounds_toArray, List.set_cons_zero, List.set_cons_succ, i64_w, i32_w]
        rfl
      refine one_ (i := 23) (N := some 16) #[true, true, true, true, true, true, true, true, true, true, true, true, true, true, true, true, true, true, true, true, true, true, true, true, false] rfl rfl (by kernel_rfl) (by decide) (fun K hK => ?_)
      refine value_ (w1 := ?_) (v := ?_) (by rfl) rfl ?_ ?_
      rotate_left 2
      · go_simp
        constructor
        · rfl
        · rfl
      refine hK.out _ _ ⟨((blk_cell (blk_alloc m5 (.cells #[.int .i64 0, .int .i64 0, .int .i64 0, .int .i64 0] 31)) 0).trans rfl), ((blk_cell (blk_alloc m14 (.cells #[.int .i64 0, .int .i64 0, .int .i64 0, .int .i64 0] 31)) 0).trans rfl), ((blk_cell (blk_alloc mT (.cells #[.int .i64 0, .int .i64 0, .int .i64 0, .int .i64 0] 31)) 8).trans rfl), ((below_alloc (Below.refl Wx.heap.size Wx) (.cells #[.int .i64 0, .int .i64 0, .int .i64 0, .int .i64 0] 31)).cell (World.block_lt_of_cell? Wx _ hy0)).trans hy0, ((below_alloc (Below.refl Wx.heap.size Wx) (.cells #[.int .i64 0, .int .i64 0, .int .i64 0, .int .i64 0] 31)).cell (World.block_lt_of_cell? Wx _ hy1)).trans hy1, ((below_alloc (Below.refl Wx.heap.size Wx) (.cells #[.int .i64 0, .int .i64 0, .int .i64 0, .int .i64 0] 31)).cell (World.block_lt_of_cell? Wx _ hy2)).trans hy2, ((below_alloc (Below.refl Wx.heap.size Wx) (.cells #[.int .i64 0, .int .i64 0, .int .i64 0, .int .i64 0] 31)).cell (World.block_lt_of_cell? Wx _ hy3)).trans hy3⟩ (fun hHeld => ?_)
      clear hK K
      refine norm_ (a' := ?_) ?_ ?_
      rotate_left
      · show Act.put _ (some 16) _ = _
        simp only [Act.put, List.setIfInBounds_toArray, List.set_cons_zero, List.set_cons_succ, i64_w, i32_w]
        rfl
      refine last_ (i := 24) (N := none) #[true, true, true, true, true, true, true, true, true, true, true, true, true, true, true, true, true, true, true, true, true, true, true, true, true] rfl rfl (by kernel_rfl) (by decide) (fun K hK => ?_)
      have hq_ := blk_new Wx (.cells #[.int .i64 0, .int .i64 0, .int .i64 0, .int .i64 0] 31)
      have hf0_ := blk_frozen hq_ 0
      have hf1_ := blk_frozen hq_ 1
      have hf2_ := blk_frozen hq_ 2
      have hf3_ := blk_frozen hq_ 3
      have hc0_ := (blk_cell hq_ 0).trans rfl
      have hc1_ := (blk_cell hq_ 1).trans rfl
      have hc2_ := (blk_cell hq_ 2).trans rfl
      have hc3_ := (blk_cell hq_ 3).trans rfl
      refine skip_ (w1 := ?_) (by rfl) rfl ?_ ?_
      rotate_left
      · go_simp
        rfl
      refine hK.out _ _ ?_
      clear hK K
      refine done_ (by kernel_rfl) ?_
      try clear hHeld
      skip
      clear hy0 hy1 hy2 hy3 wR
      have hs_Wx : w.heap.size ≤ Wx.heap.size := mB.size
      have hG16W : W0.heap.size ≤ Wx.heap.size := Nat.le_trans hXs hN.size
      replace hM := hM.below (below_alloc (Below.refl _ Wx) (.cells #[.int .i64 y.f0.f0, .int .i64 y.f0.f1, .int .i64 y.f1.f0, .int .i64 y.f1.f1] 31))
      replace hN := below_step hN (below_alloc (Below.refl _ Wx) (.cells #[.int .i64 y.f0.f0, .int .i64 y.f0.f1, .int .i64 y.f1.f0, .int .i64 y.f1.f1] 31))
      have hl_T := blk_lt mT
      have hl_5 := blk_lt m5
      have hl_6 := blk_lt m6
      have hl_10 := blk_lt m10
      have hl_12 := blk_lt m12
      have hl_14 := blk_lt m14
      have m16 : Blk (Wx.alloc (.cells #[.int .i64 y.f0.f0, .int .i64 y.f0.f1, .int .i64 y.f1.f0, .int .i64 y.f1.f1] 31)) (Wx.heap.size) #[.int .i64 y.f0.f0, .int .i64 y.f0.f1, .int .i64 y.f1.f0, .int .i64 y.f1.f1] 31 := (by have h_ := blk_new Wx (.cells #[.int .i64 y.f0.f0, .int .i64 y.f0.f1, .int .i64 y.f1.f0, .int .i64 y.f1.f1] 31); first | exact h_ | (simp only [World.size_alloc] at h_; exact h_))
      replace mT : Blk (Wx.alloc (.cells #[.int .i64 y.f0.f0, .int .i64 y.f0.f1, .int .i64 y.f1.f0, .int .i64 y.f1.f1] 31)) b #[.int .i64 s.nx, .int .i64 s.ny, .int .i64 s.cell, .int .i64 s.slot, .int .i64 s.slots, .int .i64 s.layers, .int .i64 s.most, .slice A7 s.shores.length c7, .slice (some ad) s.currents.length c8, .int .i64 v.speed, .int .i64 v.dive, .int .i64 v.use.f0, .int .i64 v.use.f1, .int .i64 v.drift.f0, .int .i64 v.drift.f1, .int .i64 v.reserve] 110 := (blk_alloc mT _)
      replace m5 : Blk (Wx.alloc (.cells #[.int .i64 y.f0.f0, .int .i64 y.f0.f1, .int .i64 y.f1.f0, .int .i64 y.f1.f1] 31)) g5 #[.pointer (some ⟨b, 0, none⟩)] 104 := (blk_alloc m5 _)
      replace m6 : Blk (Wx.alloc (.cells #[.int .i64 y.f0.f0, .int .i64 y.f0.f1, .int .i64 y.f1.f0, .int .i64 y.f1.f1] 31)) g6 #[.int .i64 x.f0.f0, .int .i64 x.f0.f1, .int .i64 x.f1.f0, .int .i64 x.f1.f1] 31 := (blk_alloc m6 _)
      replace m10 : Blk (Wx.alloc (.cells #[.int .i64 y.f0.f0, .int .i64 y.f0.f1, .int .i64 y.f1.f0, .int .i64 y.f1.f1] 31)) g10 #[.int .i64 (outV L).f0.f0, .int .i64 (outV L).f0.f1, .int .i64 (outV L).f1.f0, .int .i64 (outV L).f1.f1] 31 := (blk_alloc m10 _)
      replace m12 : Blk (Wx.alloc (.cells #[.int .i64 y.f0.f0, .int .i64 y.f0.f1, .int .i64 y.f1.f0, .int .i64 y.f1.f1] 31)) g12 #[.bool (hullL L).isNone] 4 := (blk_alloc m12 _)
      replace m14 : Blk (Wx.alloc (.cells #[.int .i64 y.f0.f0, .int .i64 y.f0.f1, .int .i64 y.f1.f0, .int .i64 y.f1.f1] 31)) g14 #[.int .i64 R] 3 := (blk_alloc m14 _)
      replace mB : Below w.heap.size w (Wx.alloc (.cells #[.int .i64 y.f0.f0, .int .i64 y.f0.f1, .int .i64 y.f1.f0, .int .i64 y.f1.f1] 31)) := (below_alloc mB _)
      have hsz_ : w.heap.size ≤ Wx.heap.size := hs_Wx
      generalize hW_ : (Wx.alloc (.cells #[.int .i64 y.f0.f0, .int .i64 y.f0.f1, .int .i64 y.f1.f0, .int .i64 y.f1.f1] 31)) = W3 at mT m5 m6 m10 m12 m14 m16 mB hM hN ⊢
      clear hW_
      generalize hg16 : Wx.heap.size = g16 at m16 hG16W ⊢
      have hn_T_16 : b ≠ g16 := by omega
      have hn_5_16 : g5 ≠ g16 := by omega
      have hn_6_16 : g6 ≠ g16 := by omega
      have hn_10_16 : g10 ≠ g16 := by omega
      have hn_12_16 : g12 ≠ g16 := by omega
      have hn_14_16 : g14 ≠ g16 := by omega
      have hn_16_T : g16 ≠ b := hn_T_16.symm
      have hn_16_5 : g16 ≠ g5 := hn_5_16.symm
      have hn_16_6 : g16 ≠ g6 := hn_6_16.symm
      have hn_16_10 : g16 ≠ g10 := hn_10_16.symm
      have hn_16_12 : g16 ≠ g12 := hn_12_16.symm
      have hn_16_14 : g16 ≠ g14 := hn_14_16.symm
      have hG16 : w.heap.size ≤ g16 := by omega
      clear hsz_ hl_T hl_5 hl_6 hl_10 hl_12 hl_14
      try clear hg16
      have hs_W3 : w.heap.size ≤ W3.heap.size := mB.size
      have hNS := HN.out
      obtain ⟨_, _, _, _, _, _, hn_10_12, hn_12_10, _⟩ := hNS
      have HN2 : Hid (g5 ≠ g16 ∧ g6 ≠ g16 ∧ g14 ≠ g16) := Lib.hid ⟨hn_5_16, hn_6_16, hn_14_16⟩
      try clear hn_T_16 hn_16_T
      try clear hn_5_16 hn_16_5
      try clear hn_6_16 hn_16_6
      try clear hn_14_16 hn_16_14
      have hd_ : 1 ≤ 6 - 1 - 1 := by decide
      have hmx : Try.prog.follows .mixedOrders = true := by kernel_rfl
      cases hO : hullL L with
      | none =>
        rw [hO] at m12
        have HO := Lib.hid hO
        clear hO
        have c16_0 := (blk_cell m16 0).trans rfl
        have c16_1 := (blk_cell m16 1).trans rfl
        have c16_2 := (blk_cell m16 2).trans rfl
        have c16_3 := (blk_cell m16 3).trans rfl
        have c10_0 := (blk_cell m10 0).trans rfl
        have c10_1 := (blk_cell m10 1).trans rfl
        have c10_2 := (blk_cell m10 2).trans rfl
        have c10_3 := (blk_cell m10 3).trans rfl
        have c12_0 := (blk_cell m12 0).trans rfl
        have f10_0 := blk_frozen m10 0
        have f10_1 := blk_frozen m10 1
        have f10_2 := blk_frozen m10 2
        have f10_3 := blk_frozen m10 3
        have f12_0 := blk_frozen m12 0
        skip
        gi_wp2
        clear hn_10_12 hn_12_10
        obtain ⟨hn_5_10, hn_5_12, hn_6_10, hn_6_12, hn_14_10, hn_14_12, hn_10_12, hn_12_10, hn_P_10, hn_X_10, hn_P_12, hn_X_12⟩ := HN.out
        obtain ⟨hn_5_16, hn_6_16, hn_14_16⟩ := HN2.out
        have hE : curB s layer j c.1 = ⟨y.f0, y.f1⟩ := HY.out
        have hmap : boxesL s x layer j0 q ++ List.map (fun c => curB s layer j c.1) (pre ++ [c]) = L ++ [(⟨y.f0, y.f1⟩ : S31)] := by rw [List.map_append, List.map_singleton, ← List.append_assoc, hLL.out, hE]
        refine ⟨(keepsFrom_below hN).trans ((((((KeepsOthers.setCell _ _ _).trans (KeepsOthers.setCell _ _ _)).trans (KeepsOthers.setCell _ _ _)).trans (KeepsOthers.setCell _ _ _)).trans (KeepsOthers.setCell _ _ _)).from _), (KpT.set (p := ⟨g12, 0, none⟩) (KpT.set (p := ⟨g10, 3, none⟩) (KpT.set (p := ⟨g10, 2, none⟩) (KpT.set (p := ⟨g10, 1, none⟩) (KpT.set (p := ⟨g10, 0, none⟩) (KpT.below (Nat.le_trans hs_W0 hXs) hN) hG10 hn_P_10 hn_X_10 _) hG10 hn_P_10 hn_X_10 _) hG10 hn_P_10 hn_X_10 _) hG10 hn_P_10 hn_X_10 _) hG12 hn_P_12 hn_X_12 _), ?_⟩
        dsimp only
        rw [hmap]
        unfold outV
        rw [outV_snoc_none HO.out]
        exact ⟨(blk_far (p := ⟨g12, 0, none⟩) (blk_far (p := ⟨g10, 3, none⟩) (blk_far (p := ⟨g10, 2, none⟩) (blk_far (p := ⟨g10, 1, none⟩) (blk_far (p := ⟨g10, 0, none⟩) m5 hn_5_10 _) hn_5_10 _) hn_5_10 _) hn_5_10 _) hn_5_12 _), (blk_far (p := ⟨g12, 0, none⟩) (blk_far (p := ⟨g10, 3, none⟩) (blk_far (p := ⟨g10, 2, none⟩) (blk_far (p := ⟨g10, 1, none⟩) (blk_far (p := ⟨g10, 0, none⟩) m6 hn_6_10 _) hn_6_10 _) hn_6_10 _) hn_6_10 _) hn_6_12 _), (blk_far (p := ⟨g12, 0, none⟩) (blk_far (p := ⟨g10, 3, none⟩) (blk_far (p := ⟨g10, 2, none⟩) (blk_far (p := ⟨g10, 1, none⟩) (blk_far (p := ⟨g10, 0, none⟩) m14 hn_14_10 _) hn_14_10 _) hn_14_10 _) hn_14_10 _) hn_14_12 _), (blk_far (p := ⟨g12, 0, none⟩) (blk_put (blk_put (blk_put (blk_put m10 0 (.int .i64 y.f0.f0) rfl) 1 (.int .i64 y.f0.f1) rfl) 2 (.int .i64 y.f1.f0) rfl) 3 (.int .i64 y.f1.f1) rfl) hn_10_12 _), (blk_put (blk_far (p := ⟨g10, 3, none⟩) (blk_far (p := ⟨g10, 2, none⟩) (blk_far (p := ⟨g10, 1, none⟩) (blk_far (p := ⟨g10, 0, none⟩) m12 hn_12_10 _) hn_12_10 _) hn_12_10 _) hn_12_10 _) 0 (.bool false) rfl), (Marks.set (Marks.set (Marks.set (Marks.set (Marks.set hM m10 (i := 0) _) (blk_put m10 0 (.int .i64 y.f0.f0) rfl) (i := 1) _) (blk_put (blk_put m10 0 (.int .i64 y.f0.f0) rfl) 1 (.int .i64 y.f0.f1) rfl) (i := 2) _) (blk_put (blk_put (blk_put m10 0 (.int .i64 y.f0.f0) rfl) 1 (.int .i64 y.f0.f1) rfl) 2 (.int .i64 y.f1.f0) rfl) (i := 3) _) (blk_far (p := ⟨g10, 3, none⟩) (blk_far (p := ⟨g10, 2, none⟩) (blk_far (p := ⟨g10, 1, none⟩) (blk_far (p := ⟨g10, 0, none⟩) m12 hn_12_10 _) hn_12_10 _) hn_12_10 _) hn_12_10 _) (i := 0) _), (Below.setCell (p := ⟨g12, 0, none⟩) (Below.setCell (p := ⟨g10, 3, none⟩) (Below.setCell (p := ⟨g10, 2, none⟩) (Below.setCell (p := ⟨g10, 1, none⟩) (Below.setCell (p := ⟨g10, 0, none⟩) mB hG10 _) hG10 _) hG10 _) hG10 _) hG12 _)⟩
      | some z =>
        have hz_ : outV L = z := by unfold outV; rw [hO]; rfl
        rw [hO] at m12
        rw [hz_] at m10
        have HO := Lib.hid hO
        clear hO hz_
        have c16_0 := (blk_cell m16 0).trans rfl
        have c16_1 := (blk_cell m16 1).trans rfl
        have c16_2 := (blk_cell m16 2).trans rfl
        have c16_3 := (blk_cell m16 3).trans rfl
        have c10_0 := (blk_cell m10 0).trans rfl
        have c10_1 := (blk_cell m10 1).trans rfl
        have c10_2 := (blk_cell m10 2).trans rfl
        have c10_3 := (blk_cell m10 3).trans rfl
        have c12_0 := (blk_cell m12 0).trans rfl
        gi_wp2_with fail
        clear c16_0
        clear c16_1
        clear c16_2
        clear c16_3
        clear c10_0
        clear c10_1
        clear c10_2
        clear c10_3
        clear c12_0
        have hcon := hull_any z ⟨y.f0, y.f1⟩ W3
        refine ⟨trivial, (CallsIn.inRound l (callsIn_wide.2 hcon)).mono ?_⟩
        clear hcon
        rintro e W4 ⟨rfl, hb⟩
        generalize hH : hullB z ⟨y.f0, y.f1⟩ = h_ at *
        have HH := Lib.hid hH
        clear hH
        replace hM := hM.below hb
        replace hN := below_step hN hb
        replace mT := blk_below mT hb
        replace m5 := blk_below m5 hb
        replace m6 := blk_below m6 hb
        replace m10 := blk_below m10 hb
        replace m12 := blk_below m12 hb
        replace m14 := blk_below m14 hb
        replace m16 := blk_below m16 hb
        replace mB := below_step mB hb
        clear hb
        have hs_W4 : w.heap.size ≤ W4.heap.size := mB.size
        have c16_0 := (blk_cell m16 0).trans rfl
        have c16_1 := (blk_cell m16 1).trans rfl
        have c16_2 := (blk_cell m16 2).trans rfl
        have c16_3 := (blk_cell m16 3).trans rfl
        have c10_0 := (blk_cell m10 0).trans rfl
        have c10_1 := (blk_cell m10 1).trans rfl
        have c10_2 := (blk_cell m10 2).trans rfl
        have c10_3 := (blk_cell m10 3).trans rfl
        have c12_0 := (blk_cell m12 0).trans rfl
        have f16_0 := blk_frozen m16 0
        have f16_1 := blk_frozen m16 1
        have f16_2 := blk_frozen m16 2
        have f16_3 := blk_frozen m16 3
        have f10_0 := blk_frozen m10 0
        have f10_1 := blk_frozen m10 1
        have f10_2 := blk_frozen m10 2
        have f10_3 := blk_frozen m10 3
        have f12_0 := blk_frozen m12 0
        skip
        gi_wp2
        clear hn_10_12 hn_12_10
        obtain ⟨hn_5_10, hn_5_12, hn_6_10, hn_6_12, hn_14_10, hn_14_12, hn_10_12, hn_12_10, hn_P_10, hn_X_10, hn_P_12, hn_X_12⟩ := HN.out
        obtain ⟨hn_5_16, hn_6_16, hn_14_16⟩ := HN2.out
        have hE : curB s layer j c.1 = ⟨y.f0, y.f1⟩ := HY.out
        have hmap : boxesL s x layer j0 q ++ List.map (fun c => curB s layer j c.1) (pre ++ [c]) = L ++ [(⟨y.f0, y.f1⟩ : S31)] := by rw [List.map_append, List.map_singleton, ← List.append_assoc, hLL.out, hE]
        refine ⟨(keepsFrom_below hN).trans ((((((((((KeepsOthers.setCell _ _ _).trans (KeepsOthers.setCell _ _ _)).trans (KeepsOthers.setCell _ _ _)).trans (KeepsOthers.setCell _ _ _)).trans (KeepsOthers.setCell _ _ _)).trans (KeepsOthers.setCell _ _ _)).trans (KeepsOthers.setCell _ _ _)).trans (KeepsOthers.setCell _ _ _)).trans (KeepsOthers.setCell _ _ _)).from _), (KpT.set (p := ⟨g12, 0, none⟩) (KpT.set (p := ⟨g10, 3, none⟩) (KpT.set (p := ⟨g10, 2, none⟩) (KpT.set (p := ⟨g10, 1, none⟩) (KpT.set (p := ⟨g10, 0, none⟩) (KpT.set (p := ⟨g16, 3, none⟩) (KpT.set (p := ⟨g16, 2, none⟩) (KpT.set (p := ⟨g16, 1, none⟩) (KpT.set (p := ⟨g16, 0, none⟩) (KpT.below (Nat.le_trans hs_W0 hXs) hN) hG16 (Nat.ne_of_lt (Nat.lt_of_lt_of_le (blk_lt mP) hG16W)) (Nat.ne_of_lt (Nat.lt_of_lt_of_le (blk_lt mX) hG16W)) _) hG16 (Nat.ne_of_lt (Nat.lt_of_lt_of_le (blk_lt mP) hG16W)) (Nat.ne_of_lt (Nat.lt_of_lt_of_le (blk_lt mX) hG16W)) _) hG16 (Nat.ne_of_lt (Nat.lt_of_lt_of_le (blk_lt mP) hG16W)) (Nat.ne_of_lt (Nat.lt_of_lt_of_le (blk_lt mX) hG16W)) _) hG16 (Nat.ne_of_lt (Nat.lt_of_lt_of_le (blk_lt mP) hG16W)) (Nat.ne_of_lt (Nat.lt_of_lt_of_le (blk_lt mX) hG16W)) _) hG10 hn_P_10 hn_X_10 _) hG10 hn_P_10 hn_X_10 _) hG10 hn_P_10 hn_X_10 _) hG10 hn_P_10 hn_X_10 _) hG12 hn_P_12 hn_X_12 _), ?_⟩
        dsimp only
        rw [hmap]
        unfold outV
        rw [outV_snoc_some HO.out]
        rw [HH.out]
        exact ⟨(blk_far (p := ⟨g12, 0, none⟩) (blk_far (p := ⟨g10, 3, none⟩) (blk_far (p := ⟨g10, 2, none⟩) (blk_far (p := ⟨g10, 1, none⟩) (blk_far (p := ⟨g10, 0, none⟩) (blk_far (p := ⟨g16, 3, none⟩) (blk_far (p := ⟨g16, 2, none⟩) (blk_far (p := ⟨g16, 1, none⟩) (blk_far (p := ⟨g16, 0, none⟩) m5 hn_5_16 _) hn_5_16 _) hn_5_16 _) hn_5_16 _) hn_5_10 _) hn_5_10 _) hn_5_10 _) hn_5_10 _) hn_5_12 _), (blk_far (p := ⟨g12, 0, none⟩) (blk_far (p := ⟨g10, 3, none⟩) (blk_far (p := ⟨g10, 2, none⟩) (blk_far (p := ⟨g10, 1, none⟩) (blk_far (p := ⟨g10, 0, none⟩) (blk_far (p := ⟨g16, 3, none⟩) (blk_far (p := ⟨g16, 2, none⟩) (blk_far (p := ⟨g16, 1, none⟩) (blk_far (p := ⟨g16, 0, none⟩) m6 hn_6_16 _) hn_6_16 _) hn_6_16 _) hn_6_16 _) hn_6_10 _) hn_6_10 _) hn_6_10 _) hn_6_10 _) hn_6_12 _), (blk_far (p := ⟨g12, 0, none⟩) (blk_far (p := ⟨g10, 3, none⟩) (blk_far (p := ⟨g10, 2, none⟩) (blk_far (p := ⟨g10, 1, none⟩) (blk_far (p := ⟨g10, 0, none⟩) (blk_far (p := ⟨g16, 3, none⟩) (blk_far (p := ⟨g16, 2, none⟩) (blk_far (p := ⟨g16, 1, none⟩) (blk_far (p := ⟨g16, 0, none⟩) m14 hn_14_16 _) hn_14_16 _) hn_14_16 _) hn_14_16 _) hn_14_10 _) hn_14_10 _) hn_14_10 _) hn_14_10 _) hn_14_12 _), (blk_far (p := ⟨g12, 0, none⟩) (blk_put (blk_put (blk_put (blk_put (blk_far (p := ⟨g16, 3, none⟩) (blk_far (p := ⟨g16, 2, none⟩) (blk_far (p := ⟨g16, 1, none⟩) (blk_far (p := ⟨g16, 0, none⟩) m10 hn_10_16 _) hn_10_16 _) hn_10_16 _) hn_10_16 _) 0 (.int .i64 h_.f0.f0) rfl) 1 (.int .i64 h_.f0.f1) rfl) 2 (.int .i64 h_.f1.f0) rfl) 3 (.int .i64 h_.f1.f1) rfl) hn_10_12 _), (blk_put (blk_far (p := ⟨g10, 3, none⟩) (blk_far (p := ⟨g10, 2, none⟩) (blk_far (p := ⟨g10, 1, none⟩) (blk_far (p := ⟨g10, 0, none⟩) (blk_far (p := ⟨g16, 3, none⟩) (blk_far (p := ⟨g16, 2, none⟩) (blk_far (p := ⟨g16, 1, none⟩) (blk_far (p := ⟨g16, 0, none⟩) m12 hn_12_16 _) hn_12_16 _) hn_12_16 _) hn_12_16 _) hn_12_10 _) hn_12_10 _) hn_12_10 _) hn_12_10 _) 0 (.bool false) rfl), (Marks.set (Marks.set (Marks.set (Marks.set (Marks.set (Marks.set (Marks.set (Marks.set (Marks.set hM m16 (i := 0) _) (blk_put m16 0 (.int .i64 h_.f0.f0) rfl) (i := 1) _) (blk_put (blk_put m16 0 (.int .i64 h_.f0.f0) rfl) 1 (.int .i64 h_.f0.f1) rfl) (i := 2) _) (blk_put (blk_put (blk_put m16 0 (.int .i64 h_.f0.f0) rfl) 1 (.int .i64 h_.f0.f1) rfl) 2 (.int .i64 h_.f1.f0) rfl) (i := 3) _) (blk_far (p := ⟨g16, 3, none⟩) (blk_far (p := ⟨g16, 2, none⟩) (blk_far (p := ⟨g16, 1, none⟩) (blk_far (p := ⟨g16, 0, none⟩) m10 hn_10_16 _) hn_10_16 _) hn_10_16 _) hn_10_16 _) (i := 0) _) (blk_put (blk_far (p := ⟨g16, 3, none⟩) (blk_far (p := ⟨g16, 2, none⟩) (blk_far (p := ⟨g16, 1, none⟩) (blk_far (p := ⟨g16, 0, none⟩) m10 hn_10_16 _) hn_10_16 _) hn_10_16 _) hn_10_16 _) 0 (.int .i64 h_.f0.f0) rfl) (i := 1) _) (blk_put (blk_put (blk_far (p := ⟨g16, 3, none⟩) (blk_far (p := ⟨g16, 2, none⟩) (blk_far (p := ⟨g16, 1, none⟩) (blk_far (p := ⟨g16, 0, none⟩) m10 hn_10_16 _) hn_10_16 _) hn_10_16 _) hn_10_16 _) 0 (.int .i64 h_.f0.f0) rfl) 1 (.int .i64 h_.f0.f1) rfl) (i := 2) _) (blk_put (blk_put (blk_put (blk_far (p := ⟨g16, 3, none⟩) (blk_far (p := ⟨g16, 2, none⟩) (blk_far (p := ⟨g16, 1, none⟩) (blk_far (p := ⟨g16, 0, none⟩) m10 hn_10_16 _) hn_10_16 _) hn_10_16 _) hn_10_16 _) 0 (.int .i64 h_.f0.f0) rfl) 1 (.int .i64 h_.f0.f1) rfl) 2 (.int .i64 h_.f1.f0) rfl) (i := 3) _) (blk_far (p := ⟨g10, 3, none⟩) (blk_far (p := ⟨g10, 2, none⟩) (blk_far (p := ⟨g10, 1, none⟩) (blk_far (p := ⟨g10, 0, none⟩) (blk_far (p := ⟨g16, 3, none⟩) (blk_far (p := ⟨g16, 2, none⟩) (blk_far (p := ⟨g16, 1, none⟩) (blk_far (p := ⟨g16, 0, none⟩) m12 hn_12_16 _) hn_12_16 _) hn_12_16 _) hn_12_16 _) hn_12_10 _) hn_12_10 _) hn_12_10 _) hn_12_10 _) (i := 0) _), (Below.setCell (p := ⟨g12, 0, none⟩) (Below.setCell (p := ⟨g10, 3, none⟩) (Below.setCell (p := ⟨g10, 2, none⟩) (Below.setCell (p := ⟨g10, 1, none⟩) (Below.setCell (p := ⟨g10, 0, none⟩) (Below.setCell (p := ⟨g16, 3, none⟩) (Below.setCell (p := ⟨g16, 2, none⟩) (Below.setCell (p := ⟨g16, 1, none⟩) (Below.setCell (p := ⟨g16, 0, none⟩) mB hG16 _) hG16 _) hG16 _) hG16 _) hG10 _) hG10 _) hG10 _) hG10 _) hG12 _)⟩
end Go.Proofs.Ytmhaiihjfgfaoaa.Gl
end
section
/- The current at a box is bounded. -/
namespace Go.Proofs.Ytmhaiihjfgfaoaa.Gl
open Go.RowKit Go.Shelf Go.Proofs.YtmhaiihjfgfaoaaW.PrintWords Go.Proofs.YtmhaiihjfgfaoaaW.PrintLast Go.Proofs.YtmhaiihjfgfaoaaW.PrintMore Go.Proofs.Ytmhaiihjfgfaoaa.Pr Go.Proofs.YtmhaiihjfgfaoaaW.Round
set_option linter.unusedVariables false
set_option linter.unusedSimpArgs false
attribute [local go_sem] max2_int min2_int max_two min_two max_four
/-- The ends of a current are not too large. -/
def BB (y : S31) : Prop := (-5000 ≤ y.f0.f0 ∧ y.f0.f0 ≤ 5000) ∧ (-5000 ≤ y.f0.f1 ∧ y.f0.f1 ≤ 5000) ∧ (-5000 ≤ y.f1.f0 ∧ y.f1.f0 ≤ 5000) ∧ (-5000 ≤ y.f1.f1 ∧ y.f1.f1 ≤ 5000) ∧ y.f0.f0 ≤ y.f0.f1 ∧ y.f1.f0 ≤ y.f1.f1
theorem hull_bb : ∀ (l : List S31) (o : Option S31), (∀ z, o = some z → BB z) → (∀ y ∈ l, BB y) → ∀ z, l.foldl hullO o = some z → BB z
  | [], o, h, _ => h
  | y :: l, o, h, hl => by
    refine hull_bb l _ (fun z hz => ?_) (fun q hq => hl q (List.mem_cons_of_mem _ hq))
    have hy := hl y List.mem_cons_self
    unfold hullO at hz
    cases o with
    | none => cases hz; exact hy
    | some q =>
      cases hz
      have hq := h q rfl
      unfold BB hullB at *
      dsimp only
      omega
/-- All currents are bounded. -/
def CurB (s : Sea) : Prop := ∀ c ∈ s.currents, (-5000 ≤ c.f0.f0 ∧ c.f0.f0 ≤ 5000) ∧ (-5000 ≤ c.f0.f1 ∧ c.f0.f1 ≤ 5000) ∧ (-5000 ≤ c.f1.f0 ∧ c.f1.f0 ≤ 5000) ∧ (-5000 ≤ c.f1.f1 ∧ c.f1.f1 ≤ 5000) ∧ c.f0.f0 ≤ c.f0.f1 ∧ c.f1.f0 ≤ c.f1.f1
theorem at_in {s : Sea} (hc : CurB s) (x : S31) (layer t u : Int) : BB (atI s x layer t u) := by
  unfold atI
  have hz : BB z31 := by unfold BB z31 z27; decide
  cases h : hullL (boxesL s x layer (t / s.slot) ((u - 1) / s.slot + 1 - t / s.slot).toNat) with
  | none => exact hz
  | some z =>
    refine hull_bb _ none (fun z h => by cases h) (fun y hy => ?_) z h
    obtain ⟨r, _, hy⟩ := List.mem_flatMap.1 hy
    obtain ⟨c, _, rfl⟩ := List.mem_map.1 hy
    unfold curB
    generalize ((t / s.slot + (r : Int)) * s.layers + layer) * (s.nx * s.ny) + c = i
    have : rd_T40 s.currents i ∈ s.currents ∨ rd_T40 s.currents i = z40 := by
      unfold rd_T40
      rw [List.getD_eq_getElem?_getD]
      cases h2 : s.currents[i.toNat]? with
      | none => exact .inr rfl
      | some q => exact .inl (List.mem_of_getElem? h2)
    rcases this with h2 | h2
    · exact hc _ h2
    · rw [h2]
      unfold BB z40 z27
      decide
end Go.Proofs.Ytmhaiihjfgfaoaa.Gl
end
section
/- The reach of a dive. -/
namespace Go.Proofs.Ytmhaiihjfgfaoaa.Gl
open Go.RowKit Go.Shelf Go.Proofs.YtmhaiihjfgfaoaaW.PrintWords Go.Proofs.YtmhaiihjfgfaoaaW.PrintLast Go.Proofs.YtmhaiihjfgfaoaaW.PrintMore Go.Proofs.Ytmhaiihjfgfaoaa.Pr Go.Proofs.YtmhaiihjfgfaoaaW.Round
set_option linter.unusedVariables false
set_option linter.unusedSimpArgs false
attribute [local go_sem] max2_int min2_int max_two min_two max_four
/-- The box that a dive may reach. -/
def grownI (s : Sea) (v : Veh) (x : S31) : S31 := ⟨⟨x.f0.f0 - ((v.speed + s.most) * v.dive + 999) / 1000, x.f0.f1 + ((v.speed + s.most) * v.dive + 999) / 1000⟩, ⟨x.f1.f0 - ((v.speed + s.most) * v.dive + 999) / 1000, x.f1.f1 + ((v.speed + s.most) * v.dive + 999) / 1000⟩⟩
def reachE (s : Sea) (v : Veh) (x : S31) (t : Int) : Int := if (containsI s (grownI s v x) && knownI s t (t + v.dive)) = true then 0 else 5
def reachV (s : Sea) (v : Veh) (x : S31) (t : Int) : S31 := if reachE s v x t = 0 then grownI s v x else z31
/-- A box whose numbers are not too large. -/
def SmallB (x : S31) : Prop := (-1099511627776 ≤ x.f0.f0 ∧ x.f0.f0 ≤ 1099511627776) ∧ (-1099511627776 ≤ x.f0.f1 ∧ x.f0.f1 ≤ 1099511627776) ∧ (-1099511627776 ≤ x.f1.f0 ∧ x.f1.f0 ≤ 1099511627776) ∧ (-1099511627776 ≤ x.f1.f1 ∧ x.f1.f1 ≤ 1099511627776)
set_option maxRecDepth 100000 in
set_option maxHeartbeats 4000000 in
theorem reach_any (b : Nat) (s : Sea) (v : Veh) (x : S31) (t : Int) (w : World) (hT : TripAt w b s v) (hS : SeaN s) (hV : VehN v) (hx : SmallB x) (ht0 : 0 ≤ t) (ht1 : t ≤ 1099511627776) :
    Calls Try.prog 99 #[.pointer (some ⟨b, 0, none⟩), .agg #[.int .i64 x.f0.f0, .int .i64 x.f0.f1, .int .i64 x.f1.f0, .int .i64 x.f1.f1], .int .i64 t] w (RetB (.tuple #[.agg #[.int .i64 (reachV s v x t).f0.f0, .int .i64 (reachV s v x t).f0.f1, .int .i64 (reachV s v x t).f1.f0, .int .i64 (reachV s v x t).f1.f1], .int .i64 (reachE s v x t)]) w) := by
  have hu31 := Try.underlying31
  have hu27 := Try.underlying27
  have hT0 := hT
  obtain ⟨A7, c7, A8, c8, mT, _⟩ := hT0
  have hm := hS.most
  have hsp := hV.speed
  have hdv := hV.dive
  have p1 := mul_in (show 0 ≤ v.speed + s.most by omega) (show v.speed + s.most ≤ 10000 by omega) (show 0 ≤ v.dive by omega) hdv.2
  have kC := fun W (h : TripAt W b s v) => contains_any b s v (grownI s v x) W h hS
  have kN := fun W (h : TripAt W b s v) => known_any b s v t (t + v.dive) W h hS
  have HE : Hid (reachE s v x t = if (containsI s (grownI s v x) && knownI s t (t + v.dive)) = true then 0 else 5) := Lib.hid rfl
  have HV : Hid (reachV s v x t = if reachE s v x t = 0 then grownI s v x else z31) := Lib.hid rfl
  have hG : grownI s v x = ⟨⟨x.f0.f0 - ((v.speed + s.most) * v.dive + 999) / 1000, x.f0.f1 + ((v.speed + s.most) * v.dive + 999) / 1000⟩, ⟨x.f1.f0 - ((v.speed + s.most) * v.dive + 999) / 1000, x.f1.f1 + ((v.speed + s.most) * v.dive + 999) / 1000⟩⟩ := rfl
  obtain ⟨x0, x1, x2, x3⟩ := hx
  clear hS hV
  go_enter Try.func99, Try.ntmps99
  go_wp2_with fail
  have hl_T := blk_lt mT
  have m4 : Blk ((w.alloc (.cells #[.int .i64 x.f0.f0, .int .i64 x.f0.f1, .int .i64 x.f1.f0, .int .i64 x.f1.f1] 31)).alloc (.cells #[.int .i64 0, .int .i64 0, .int .i64 0, .int .i64 0] 31)) (w.heap.size) #[.int .i64 x.f0.f0, .int .i64 x.f0.f1, .int .i64 x.f1.f0, .int .i64 x.f1.f1] 31 := (blk_alloc (by have h_ := blk_new w (.cells #[.int .i64 x.f0.f0, .int .i64 x.f0.f1, .int .i64 x.f1.f0, .int .i64 x.f1.f1] 31); first | exact h_ | (simp only [World.size_alloc] at h_; exact h_)) _)
  have m6 : Blk ((w.alloc (.cells #[.int .i64 x.f0.f0, .int .i64 x.f0.f1, .int .i64 x.f1.f0, .int .i64 x.f1.f1] 31)).alloc (.cells #[.int .i64 0, .int .i64 0, .int .i64 0, .int .i64 0] 31)) (w.heap.size + 1) #[.int .i64 0, .int .i64 0, .int .i64 0, .int .i64 0] 31 := (by have h_ := blk_new (w.alloc (.cells #[.int .i64 x.f0.f0, .int .i64 x.f0.f1, .int .i64 x.f1.f0, .int .i64 x.f1.f1] 31)) (.cells #[.int .i64 0, .int .i64 0, .int .i64 0, .int .i64 0] 31); first | exact h_ | (simp only [World.size_alloc] at h_; exact h_))
  replace mT : Blk ((w.alloc (.cells #[.int .i64 x.f0.f0, .int .i64 x.f0.f1, .int .i64 x.f1.f0, .int .i64 x.f1.f1] 31)).alloc (.cells #[.int .i64 0, .int .i64 0, .int .i64 0, .int .i64 0] 31)) b #[.int .i64 s.nx, .int .i64 s.ny, .int .i64 s.cell, .int .i64 s.slot, .int .i64 s.slots, .int .i64 s.layers, .int .i64 s.most, .slice A7 s.shores.length c7, .slice A8 s.currents.length c8, .int .i64 v.speed, .int .i64 v.dive, .int .i64 v.use.f0, .int .i64 v.use.f1, .int .i64 v.drift.f0, .int .i64 v.drift.f1, .int .i64 v.reserve] 110 := (blk_alloc (blk_alloc mT _) _)
  have mB : Below w.heap.size w ((w.alloc (.cells #[.int .i64 x.f0.f0, .int .i64 x.f0.f1, .int .i64 x.f1.f0, .int .i64 x.f1.f1] 31)).alloc (.cells #[.int .i64 0, .int .i64 0, .int .i64 0, .int .i64 0] 31)) := (below_alloc (below_alloc (Below.refl w.heap.size w) _) _)
  have hsz_ : w.heap.size ≤ w.heap.size := Nat.le_refl _
  generalize hW_ : ((w.alloc (.cells #[.int .i64 x.f0.f0, .int .i64 x.f0.f1, .int .i64 x.f1.f0, .int .i64 x.f1.f1] 31)).alloc (.cells #[.int .i64 0, .int .i64 0, .int .i64 0, .int .i64 0] 31)) = W1 at mT m4 m6 mB ⊢
  clear hW_
  generalize hg4 : w.heap.size = g4 at m4 m6 ⊢
  have hn_T_4 : b ≠ g4 := by omega
  have hn_4_T : g4 ≠ b := hn_T_4.symm
  have hG4 : w.heap.size ≤ g4 := by omega
  generalize hg6 : g4 + 1 = g6 at m6 ⊢
  have hn_T_6 : b ≠ g6 := by omega
  have hn_4_6 : g4 ≠ g6 := by omega
  have hn_6_T : g6 ≠ b := hn_T_6.symm
  have hn_6_4 : g6 ≠ g4 := hn_4_6.symm
  have hG6 : w.heap.size ≤ g6 := by omega
  clear hsz_ hl_T
  try clear hg6
  try clear hg4
  have hs_W1 : w.heap.size ≤ W1.heap.size := mB.size
  have cT6 : W1.cell? ⟨b, 6, none⟩ = some (.int .i64 s.most) := (blk_cell mT 6).trans rfl
  have cT9 : W1.cell? ⟨b, 9, none⟩ = some (.int .i64 v.speed) := (blk_cell mT 9).trans rfl
  have cT10 : W1.cell? ⟨b, 10, none⟩ = some (.int .i64 v.dive) := (blk_cell mT 10).trans rfl
  have q1 : wrap64 (v.speed + s.most) = v.speed + s.most := by unfold wrap64; omega
  have q2 : wrap64 ((v.speed + s.most) * v.dive) = (v.speed + s.most) * v.dive := by unfold wrap64; omega
  have q3 : wrap64 ((v.speed + s.most) * v.dive + 999) = (v.speed + s.most) * v.dive + 999 := by unfold wrap64; omega
  have q4 : Int.tdiv ((v.speed + s.most) * v.dive + 999) 1000 = ((v.speed + s.most) * v.dive + 999) / 1000 := Int.tdiv_eq_ediv_of_nonneg (by omega)
  have hby : 0 ≤ ((v.speed + s.most) * v.dive + 999) / 1000 ∧ ((v.speed + s.most) * v.dive + 999) / 1000 ≤ 2000000 := by omega
  go_quiet (fail)
  replace mT := blk_drewN mT nq
  replace m4 := blk_drewN m4 nq
  replace m6 := blk_drewN m6 nq
  replace mB := pw_below_drewN mB nq
  generalize hWq : World.drewN _ nq = W2 at mT m4 m6 mB ⊢
  clear hWq
  have hs_W2 : w.heap.size ≤ W2.heap.size := mB.size
  clear cT6 cT9 cT10 q1 q2 q3 q4
  generalize ((v.speed + s.most) * v.dive + 999) / 1000 = y at *
  clear p1
  generalize grownI s v x = G at *
  subst hG
  dsimp only at kC
  have c4_0 := (blk_cell m4 0).trans rfl
  have c4_1 := (blk_cell m4 1).trans rfl
  have c4_2 := (blk_cell m4 2).trans rfl
  have c4_3 := (blk_cell m4 3).trans rfl
  go_wp2_with fail
  clear c4_0
  clear c4_1
  clear c4_2
  clear c4_3
  have hl_T := blk_lt mT
  have hl_4 := blk_lt m4
  have hl_6 := blk_lt m6
  have m9 : Blk (W2.alloc (.cells #[.int .i64 (x.f0.f0 - y), .int .i64 (x.f0.f1 + y), .int .i64 (x.f1.f0 - y), .int .i64 (x.f1.f1 + y)] 31)) (W2.heap.size) #[.int .i64 (x.f0.f0 - y), .int .i64 (x.f0.f1 + y), .int .i64 (x.f1.f0 - y), .int .i64 (x.f1.f1 + y)] 31 := (by have h_ := blk_new W2 (.cells #[.int .i64 (x.f0.f0 - y), .int .i64 (x.f0.f1 + y), .int .i64 (x.f1.f0 - y), .int .i64 (x.f1.f1 + y)] 31); first | exact h_ | (simp only [World.size_alloc] at h_; exact h_))
  replace mT : Blk (W2.alloc (.cells #[.int .i64 (x.f0.f0 - y), .int .i64 (x.f0.f1 + y), .int .i64 (x.f1.f0 - y), .int .i64 (x.f1.f1 + y)] 31)) b #[.int .i64 s.nx, .int .i64 s.ny, .int .i64 s.cell, .int .i64 s.slot, .int .i64 s.slots, .int .i64 s.layers, .int .i64 s.most, .slice A7 s.shores.length c7, .slice A8 s.currents.length c8, .int .i64 v.speed, .int .i64 v.dive, .int .i64 v.use.f0, .int .i64 v.use.f1, .int .i64 v.drift.f0, .int .i64 v.drift.f1, .int .i64 v.reserve] 110 := (blk_alloc mT _)
  replace m4 : Blk (W2.alloc (.cells #[.int .i64 (x.f0.f0 - y), .int .i64 (x.f0.f1 + y), .int .i64 (x.f1.f0 - y), .int .i64 (x.f1.f1 + y)] 31)) g4 #[.int .i64 x.f0.f0, .int .i64 x.f0.f1, .int .i64 x.f1.f0, .int .i64 x.f1.f1] 31 := (blk_alloc m4 _)
  replace m6 : Blk (W2.alloc (.cells #[.int .i64 (x.f0.f0 - y), .int .i64 (x.f0.f1 + y), .int .i64 (x.f1.f0 - y), .int .i64 (x.f1.f1 + y)] 31)) g6 #[.int .i64 0, .int .i64 0, .int .i64 0, .int .i64 0] 31 := (blk_alloc m6 _)
  replace mB : Below w.heap.size w (W2.alloc (.cells #[.int .i64 (x.f0.f0 - y), .int .i64 (x.f0.f1 + y), .int .i64 (x.f1.f0 - y), .int .i64 (x.f1.f1 + y)] 31)) := (below_alloc mB _)
  have hsz_ : w.heap.size ≤ W2.heap.size := hs_W2
  generalize hW_ : (W2.alloc (.cells #[.int .i64 (x.f0.f0 - y), .int .i64 (x.f0.f1 + y), .int .i64 (x.f1.f0 - y), .int .i64 (x.f1.f1 + y)] 31)) = W3 at mT m4 m6 m9 mB ⊢
  clear hW_
  generalize hg9 : W2.heap.size = g9 at m9 ⊢
  have hn_T_9 : b ≠ g9 := by omega
  have hn_4_9 : g4 ≠ g9 := by omega
  have hn_6_9 : g6 ≠ g9 := by omega
  have hn_9_T : g9 ≠ b := hn_T_9.symm
  have hn_9_4 : g9 ≠ g4 := hn_4_9.symm
  have hn_9_6 : g9 ≠ g6 := hn_6_9.symm
  have hG9 : w.heap.size ≤ g9 := by omega
  clear hsz_ hl_T hl_4 hl_6
  try clear hg9
  have hs_W3 : w.heap.size ≤ W3.heap.size := mB.size
  have hcon := kC W3 (hT.below mB)
  (with_reducible refine hcon.mono ?_)
  clear hcon
  rintro e W4 ⟨rfl, hb⟩
  replace mT := blk_below mT hb
  replace m4 := blk_below m4 hb
  replace m6 := blk_below m6 hb
  replace m9 := blk_below m9 hb
  replace mB := below_step mB hb
  clear hb
  have hs_W4 : w.heap.size ≤ W4.heap.size := mB.size
  cases hc : containsI s ⟨⟨x.f0.f0 - y, x.f0.f1 + y⟩, ⟨x.f1.f0 - y, x.f1.f1 + y⟩⟩ with
  | false =>
    have HZ : Hid (reachE s v x t = 5) := Lib.hid (by rw [HE.out, hc]; rfl)
    clear HE
    have HV2 : Hid (reachV s v x t = z31) := Lib.hid (HV.out.trans (by rw [HZ.out]; rfl))
    clear HV
    have c6_0 := (blk_cell m6 0).trans rfl
    have c6_1 := (blk_cell m6 1).trans rfl
    have c6_2 := (blk_cell m6 2).trans rfl
    have c6_3 := (blk_cell m6 3).trans rfl
    have f6_0 := blk_frozen m6 0
    have f6_1 := blk_frozen m6 1
    have f6_2 := blk_frozen m6 2
    have f6_3 := blk_frozen m6 3
    go_wp2
    exact bodyPost_ret (results_ct rfl _ _ g6 31 #[.int .i64 0, .int .i64 0, .int .i64 0, .int .i64 0] (0, 0) _ rfl (blk_put (blk_put (blk_put (blk_put m6 0 (.int .i64 0) rfl) 1 (.int .i64 0) rfl) 2 (.int .i64 0) rfl) 3 (.int .i64 0) rfl) Try.underlying31 rfl (by kernel_rfl)) rfl ⟨by rw [HV2.out, HZ.out]; rfl, (Below.setCell (p := ⟨g6, 3, none⟩) (Below.setCell (p := ⟨g6, 2, none⟩) (Below.setCell (p := ⟨g6, 1, none⟩) (Below.setCell (p := ⟨g6, 0, none⟩) mB hG6 _) hG6 _) hG6 _) hG6 _)⟩
  | true =>
    have HC := Lib.hid hc
    clear hc
    have cT10 : W4.cell? ⟨b, 10, none⟩ = some (.int .i64 v.dive) := (blk_cell mT 10).trans rfl
    go_wp2_with fail
    clear cT10
    have hcon := kN W4 (hT.below mB)
    (with_reducible refine hcon.mono ?_)
    clear hcon
    rintro e W5 ⟨rfl, hb⟩
    replace mT := blk_below mT hb
    replace m4 := blk_below m4 hb
    replace m6 := blk_below m6 hb
    replace m9 := blk_below m9 hb
    replace mB := below_step mB hb
    clear hb
    have hs_W5 : w.heap.size ≤ W5.heap.size := mB.size
    cases hk : knownI s t (t + v.dive) with
    | false =>
      have HZ : Hid (reachE s v x t = 5) := Lib.hid (by rw [HE.out, HC.out, hk]; rfl)
      clear HE
      have HV2 : Hid (reachV s v x t = z31) := Lib.hid (HV.out.trans (by rw [HZ.out]; rfl))
      clear HV
      have c6_0 := (blk_cell m6 0).trans rfl
      have c6_1 := (blk_cell m6 1).trans rfl
      have c6_2 := (blk_cell m6 2).trans rfl
      have c6_3 := (blk_cell m6 3).trans rfl
      have f6_0 := blk_frozen m6 0
      have f6_1 := blk_frozen m6 1
      have f6_2 := blk_frozen m6 2
      have f6_3 := blk_frozen m6 3
      go_wp2
      exact bodyPost_ret (results_ct rfl _ _ g6 31 #[.int .i64 0, .int .i64 0, .int .i64 0, .int .i64 0] (0, 0) _ rfl (blk_put (blk_put (blk_put (blk_put m6 0 (.int .i64 0) rfl) 1 (.int .i64 0) rfl) 2 (.int .i64 0) rfl) 3 (.int .i64 0) rfl) Try.underlying31 rfl (by kernel_rfl)) rfl ⟨by rw [HV2.out, HZ.out]; rfl, (Below.setCell (p := ⟨g6, 3, none⟩) (Below.setCell (p := ⟨g6, 2, none⟩) (Below.setCell (p := ⟨g6, 1, none⟩) (Below.setCell (p := ⟨g6, 0, none⟩) mB hG6 _) hG6 _) hG6 _) hG6 _)⟩
    | true =>
      have HZ : Hid (reachE s v x t = 0) := Lib.hid (by rw [HE.out, HC.out, hk]; rfl)
      clear HE hk
      have HV2 := Lib.hid (HV.out.trans (if_pos HZ.out))
      clear HV
      have c6_0 := (blk_cell m6 0).trans rfl
      have c6_1 := (blk_cell m6 1).trans rfl
      have c6_2 := (blk_cell m6 2).trans rfl
      have c6_3 := (blk_cell m6 3).trans rfl
      have c9_0 := (blk_cell m9 0).trans rfl
      have c9_1 := (blk_cell m9 1).trans rfl
      have c9_2 := (blk_cell m9 2).trans rfl
      have c9_3 := (blk_cell m9 3).trans rfl
      have f6_0 := blk_frozen m6 0
      have f6_1 := blk_frozen m6 1
      have f6_2 := blk_frozen m6 2
      have f6_3 := blk_frozen m6 3
      go_wp2
      exact bodyPost_ret (results_ct rfl _ _ g6 31 #[.int .i64 (x.f0.f0 - y), .int .i64 (x.f0.f1 + y), .int .i64 (x.f1.f0 - y), .int .i64 (x.f1.f1 + y)] (0, 0) _ rfl (blk_put (blk_put (blk_put (blk_put m6 0 (.int .i64 (x.f0.f0 - y)) rfl) 1 (.int .i64 (x.f0.f1 + y)) rfl) 2 (.int .i64 (x.f1.f0 - y)) rfl) 3 (.int .i64 (x.f1.f1 + y)) rfl) Try.underlying31 rfl (by kernel_rfl)) rfl ⟨by rw [HV2.out, HZ.out]; rfl, (Below.setCell (p := ⟨g6, 3, none⟩) (Below.setCell (p := ⟨g6, 2, none⟩) (Below.setCell (p := ⟨g6, 1, none⟩) (Below.setCell (p := ⟨g6, 0, none⟩) mB hG6 _) hG6 _) hG6 _) hG6 _)⟩
end Go.Proofs.Ytmhaiihjfgfaoaa.Gl
end
