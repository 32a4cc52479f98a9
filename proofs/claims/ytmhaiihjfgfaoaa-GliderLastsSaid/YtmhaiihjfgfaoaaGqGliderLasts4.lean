/- Part 4 of the proof of GliderLasts: what the functions compute. No condition. -/
import Derived.Test.YtmhaiihjfgfaoaaGqGliderLasts3
import Derived.Test.YtmhaiihjfgfaoaaGqGliderLasts1
section
/- The box in which a dive ends. -/
namespace Go.Proofs.Ytmhaiihjfgfaoaa.Gl
open Go.RowKit Go.Shelf Go.Proofs.YtmhaiihjfgfaoaaW.PrintWords Go.Proofs.YtmhaiihjfgfaoaaW.PrintLast Go.Proofs.YtmhaiihjfgfaoaaW.PrintMore Go.Proofs.Ytmhaiihjfgfaoaa.Pr Go.Proofs.YtmhaiihjfgfaoaaW.Round
set_option linter.unusedVariables false
set_option linter.unusedSimpArgs false
attribute [local go_sem] max2_int min2_int max_two min_two max_four
/-- The direction of a heading. -/
def dirI (h : Int) : Int × Int := if h = 0 then (0, 1000) else if h = 1 then (707, 707) else if h = 2 then (1000, 0) else if h = 3 then (707, -707) else if h = 4 then (0, -1000) else if h = 5 then (-707, -707) else if h = 6 then (-1000, 0) else if h = 7 then (-707, 707) else if h = 8 then (0, 0) else (0, 0)
theorem dirI_in (h : Int) : (-1000 ≤ (dirI h).1 ∧ (dirI h).1 ≤ 1000) ∧ (-1000 ≤ (dirI h).2 ∧ (dirI h).2 ≤ 1000) := by
  unfold dirI
  repeat' split
  all_goals decide
set_option maxRecDepth 100000 in
set_option maxHeartbeats 2000000 in
theorem dirs_any (w : World) : Calls Try.prog 130 #[] w (RetB (.agg #[.int .i64 0, .int .i64 1000, .int .i64 707, .int .i64 707, .int .i64 1000, .int .i64 0, .int .i64 707, .int .i64 (-707), .int .i64 0, .int .i64 (-1000), .int .i64 (-707), .int .i64 (-707), .int .i64 (-1000), .int .i64 0, .int .i64 (-707), .int .i64 707, .int .i64 0, .int .i64 0]) w) := by
  have hu162 := Try.underlying162
  have hu161 := Try.underlying161
  go_enter Try.func130, Try.ntmps130
  go_wp2
  exact bodyPost_ret (results_cell_row rfl _ _ w.heap.size 162 #[.int .i64 0, .int .i64 1000, .int .i64 707, .int .i64 707, .int .i64 1000, .int .i64 0, .int .i64 707, .int .i64 (-707), .int .i64 0, .int .i64 (-1000), .int .i64 (-707), .int .i64 (-707), .int .i64 (-1000), .int .i64 0, .int .i64 (-707), .int .i64 707, .int .i64 0, .int .i64 0] (0, 0) _ rfl (blk_new w _) Try.underlying162 rfl (by kernel_rfl)) rfl ⟨rfl, below_alloc (Below.refl _ w) _⟩
/-- The box in which a dive ends. -/
def endsI (s : Sea) (v : Veh) (x rb : S31) (t heading layer : Int) : S31 := ⟨shiftI v.dive x.f0 ((dirI heading).1 * v.speed) (atI s rb layer t (t + v.dive)).f0, shiftI v.dive x.f1 ((dirI heading).2 * v.speed) (atI s rb layer t (t + v.dive)).f1⟩
set_option maxRecDepth 100000 in
set_option maxHeartbeats 8000000 in
theorem ends_any (b : Nat) (se : Sea) (v : Veh) (x rb : S31) (t hd layer : Int) (w : World) (hT : TripAt w b se v) (hS : SeaN se) (hV : VehN v) (hcu : (se.currents.length : Int) = se.slots * se.layers * (se.nx * se.ny)) (hcb : CurB se) (hx : SmallB x) (hr : InSea se rb) (ht0 : 0 ≤ t) (ht2 : t + v.dive ≤ se.slots * se.slot) (hh0 : 0 ≤ hd) (hh1 : hd ≤ 8) (hl0 : 0 ≤ layer) (hl1 : layer < se.layers) :
    Calls Try.prog 101 #[.pointer (some ⟨b, 0, none⟩), .agg #[.int .i64 x.f0.f0, .int .i64 x.f0.f1, .int .i64 x.f1.f0, .int .i64 x.f1.f1], .agg #[.int .i64 rb.f0.f0, .int .i64 rb.f0.f1, .int .i64 rb.f1.f0, .int .i64 rb.f1.f1], .int .i64 t, .agg #[.int .i64 hd, .int .i64 layer]] w (RetB (.agg #[.int .i64 (endsI se v x rb t hd layer).f0.f0, .int .i64 (endsI se v x rb t hd layer).f0.f1, .int .i64 (endsI se v x rb t hd layer).f1.f0, .int .i64 (endsI se v x rb t hd layer).f1.f1]) w) := by
  have hu31 := Try.underlying31
  have hu27 := Try.underlying27
  have hu161 := Try.underlying161
  have hu162 := Try.underlying162
  have hu33 := Try.underlying33
  have hdv := hV.dive
  have hsp := hV.speed
  have hss := mul_in (show 0 ≤ se.slots by have := hS.slots; omega) hS.slots.2 (show 0 ≤ se.slot by have := hS.slot; omega) hS.slot.2
  have hix : ∀ W_ : World, (Instr.index 162 (.agg #[.int .i64 0, .int .i64 1000, .int .i64 707, .int .i64 707, .int .i64 1000, .int .i64 0, .int .i64 707, .int .i64 (-707), .int .i64 0, .int .i64 (-1000), .int .i64 (-707), .int .i64 (-707), .int .i64 (-1000), .int .i64 0, .int .i64 (-707), .int .i64 707, .int .i64 0, .int .i64 0]) (.int .i64 hd)).run Try.prog W_ = .ok (.agg #[.int .i64 (dirI hd).1, .int .i64 (dirI hd).2]) W_ := by
    have h9 : hd = 0 ∨ hd = 1 ∨ hd = 2 ∨ hd = 3 ∨ hd = 4 ∨ hd = 5 ∨ hd = 6 ∨ hd = 7 ∨ hd = 8 := by omega
    rcases h9 with rfl | rfl | rfl | rfl | rfl | rfl | rfl | rfl | rfl <;> exact fun W_ => by kernel_rfl
  have hdi := dirI_in hd
  have hai := at_in hcb rb layer t (t + v.dive)
  have kA := fun u_ (hu_ : u_ = t + v.dive) W (h : TripAt W b se v) => at_any b se v rb layer t u_ W h hS hr hcu hl0 hl1 ht0 (by omega) (by omega)
  have hyy : ∀ u_, u_ = t + v.dive → atI se rb layer t u_ = atI se rb layer t (t + v.dive) := fun u_ h => by rw [h]
  have HR : Hid (endsI se v x rb t hd layer = ⟨shiftI v.dive x.f0 ((dirI hd).1 * v.speed) (atI se rb layer t (t + v.dive)).f0, shiftI v.dive x.f1 ((dirI hd).2 * v.speed) (atI se rb layer t (t + v.dive)).f1⟩) := Lib.hid rfl
  have kA := fun u_ (hu_ : u_ = t + v.dive) W (h : TripAt W b se v) => by have h1 := kA u_ hu_ W h; rw [hyy u_ hu_] at h1; exact h1
  clear hyy
  generalize atI se rb layer t (t + v.dive) = y at *
  generalize dirI hd = d at *
  obtain ⟨d0, d1⟩ := d
  dsimp only at hdi hix HR
  have m0 := mul_abs (a := d0) (b := v.speed) (m := 1000) (n := 5000) hdi.1.1 hdi.1.2 hsp.1 hsp.2 (by omega)
  have m1 := mul_abs (a := d1) (b := v.speed) (m := 1000) (n := 5000) hdi.2.1 hdi.2.2 hsp.1 hsp.2 (by omega)
  have kS0 := fun z_ (hz_ : z_ = d0 * v.speed) W (h : TripAt W b se v) => shift_any b se v x.f0 z_ y.f0 W h hV hx.1 hx.2.1 (by omega) hai.1 hai.2.1
  have kS1 := fun z_ (hz_ : z_ = d1 * v.speed) W (h : TripAt W b se v) => shift_any b se v x.f1 z_ y.f1 W h hV hx.2.2.1 hx.2.2.2 (by omega) hai.2.2.1 hai.2.2.2.1
  have hT0 := hT
  obtain ⟨A7, c7, A8, c8, mT, _⟩ := hT0
  have w1 : wrap64 (t + v.dive) = t + v.dive := by unfold wrap64; omega
  have w2 : wrap64 (d0 * v.speed) = d0 * v.speed := by unfold wrap64; omega
  have w3 : wrap64 (d1 * v.speed) = d1 * v.speed := by unfold wrap64; omega
  clear hx hr hS hV hcu hcb hai hdi hss m0 m1 hdv hsp ht0 ht2 hh0 hh1 hl0 hl1
  go_enter Try.func101, Try.ntmps101
  go_wp2_with fail
  have hl_T := blk_lt mT
  have m6 : Blk ((((w.alloc (.cells #[.int .i64 x.f0.f0, .int .i64 x.f0.f1, .int .i64 x.f1.f0, .int .i64 x.f1.f1] 31)).alloc (.cells #[.int .i64 rb.f0.f0, .int .i64 rb.f0.f1, .int .i64 rb.f1.f0, .int .i64 rb.f1.f1] 31)).alloc (.cells #[.int .i64 hd, .int .i64 layer] 33)).alloc (.cells #[.int .i64 0, .int .i64 0, .int .i64 0, .int .i64 0] 31)) (w.heap.size) #[.int .i64 x.f0.f0, .int .i64 x.f0.f1, .int .i64 x.f1.f0, .int .i64 x.f1.f1] 31 := (blk_alloc (blk_alloc (blk_alloc (by have h_ := blk_new w (.cells #[.int .i64 x.f0.f0, .int .i64 x.f0.f1, .int .i64 x.f1.f0, .int .i64 x.f1.f1] 31); first | exact h_ | (simp only [World.size_alloc] at h_; exact h_)) _) _) _)
  have m7 : Blk ((((w.alloc (.cells #[.int .i64 x.f0.f0, .int .i64 x.f0.f1, .int .i64 x.f1.f0, .int .i64 x.f1.f1] 31)).alloc (.cells #[.int .i64 rb.f0.f0, .int .i64 rb.f0.f1, .int .i64 rb.f1.f0, .int .i64 rb.f1.f1] 31)).alloc (.cells #[.int .i64 hd, .int .i64 layer] 33)).alloc (.cells #[.int .i64 0, .int .i64 0, .int .i64 0, .int .i64 0] 31)) (w.heap.size + 1) #[.int .i64 rb.f0.f0, .int .i64 rb.f0.f1, .int .i64 rb.f1.f0, .int .i64 rb.f1.f1] 31 := (blk_alloc (blk_alloc (by have h_ := blk_new (w.alloc (.cells #[.int .i64 x.f0.f0, .int .i64 x.f0.f1, .int .i64 x.f1.f0, .int .i64 x.f1.f1] 31)) (.cells #[.int .i64 rb.f0.f0, .int .i64 rb.f0.f1, .int .i64 rb.f1.f0, .int .i64 rb.f1.f1] 31); first | exact h_ | (simp only [World.size_alloc] at h_; exact h_)) _) _)
  have m9 : Blk ((((w.alloc (.cells #[.int .i64 x.f0.f0, .int .i64 x.f0.f1, .int .i64 x.f1.f0, .int .i64 x.f1.f1] 31)).alloc (.cells #[.int .i64 rb.f0.f0, .int .i64 rb.f0.f1, .int .i64 rb.f1.f0, .int .i64 rb.f1.f1] 31)).alloc (.cells #[.int .i64 hd, .int .i64 layer] 33)).alloc (.cells #[.int .i64 0, .int .i64 0, .int .i64 0, .int .i64 0] 31)) (w.heap.size + 1 + 1) #[.int .i64 hd, .int .i64 layer] 33 := (blk_alloc (by have h_ := blk_new ((w.alloc (.cells #[.int .i64 x.f0.f0, .int .i64 x.f0.f1, .int .i64 x.f1.f0, .int .i64 x.f1.f1] 31)).alloc (.cells #[.int .i64 rb.f0.f0, .int .i64 rb.f0.f1, .int .i64 rb.f1.f0, .int .i64 rb.f1.f1] 31)) (.cells #[.int .i64 hd, .int .i64 layer] 33); first | exact h_ | (simp only [World.size_alloc] at h_; exact h_)) _)
  have m10 : Blk ((((w.alloc (.cells #[.int .i64 x.f0.f0, .int .i64 x.f0.f1, .int .i64 x.f1.f0, .int .i64 x.f1.f1] 31)).alloc (.cells #[.int .i64 rb.f0.f0, .int .i64 rb.f0.f1, .int .i64 rb.f1.f0, .int .i64 rb.f1.f1] 31)).alloc (.cells #[.int .i64 hd, .int .i64 layer] 33)).alloc (.cells #[.int .i64 0, .int .i64 0, .int .i64 0, .int .i64 0] 31)) (w.heap.size + 1 + 1 + 1) #[.int .i64 0, .int .i64 0, .int .i64 0, .int .i64 0] 31 := (by have h_ := blk_new (((w.alloc (.cells #[.int .i64 x.f0.f0, .int .i64 x.f0.f1, .int .i64 x.f1.f0, .int .i64 x.f1.f1] 31)).alloc (.cells #[.int .i64 rb.f0.f0, .int .i64 rb.f0.f1, .int .i64 rb.f1.f0, .int .i64 rb.f1.f1] 31)).alloc (.cells #[.int .i64 hd, .int .i64 layer] 33)) (.cells #[.int .i64 0, .int .i64 0, .int .i64 0, .int .i64 0] 31); first | exact h_ | (simp only [World.size_alloc] at h_; exact h_))
  replace mT : Blk ((((w.alloc (.cells #[.int .i64 x.f0.f0, .int .i64 x.f0.f1, .int .i64 x.f1.f0, .int .i64 x.f1.f1] 31)).alloc (.cells #[.int .i64 rb.f0.f0, .int .i64 rb.f0.f1, .int .i64 rb.f1.f0, .int .i64 rb.f1.f1] 31)).alloc (.cells #[.int .i64 hd, .int .i64 layer] 33)).alloc (.cells #[.int .i64 0, .int .i64 0, .int .i64 0, .int .i64 0] 31)) b #[.int .i64 se.nx, .int .i64 se.ny, .int .i64 se.cell, .int .i64 se.slot, .int .i64 se.slots, .int .i64 se.layers, .int .i64 se.most, .slice A7 se.shores.length c7, .slice A8 se.currents.length c8, .int .i64 v.speed, .int .i64 v.dive, .int .i64 v.use.f0, .int .i64 v.use.f1, .int .i64 v.drift.f0, .int .i64 v.drift.f1, .int .i64 v.reserve] 110 := (blk_alloc (blk_alloc (blk_alloc (blk_alloc mT _) _) _) _)
  have mB : Below w.heap.size w ((((w.alloc (.cells #[.int .i64 x.f0.f0, .int .i64 x.f0.f1, .int .i64 x.f1.f0, .int .i64 x.f1.f1] 31)).alloc (.cells #[.int .i64 rb.f0.f0, .int .i64 rb.f0.f1, .int .i64 rb.f1.f0, .int .i64 rb.f1.f1] 31)).alloc (.cells #[.int .i64 hd, .int .i64 layer] 33)).alloc (.cells #[.int .i64 0, .int .i64 0, .int .i64 0, .int .i64 0] 31)) := (below_alloc (below_alloc (below_alloc (below_alloc (Below.refl w.heap.size w) _) _) _) _)
  have hsz_ : w.heap.size ≤ w.heap.size := Nat.le_refl _
  generalize hW_ : ((((w.alloc (.cells #[.int .i64 x.f0.f0, .int .i64 x.f0.f1, .int .i64 x.f1.f0, .int .i64 x.f1.f1] 31)).alloc (.cells #[.int .i64 rb.f0.f0, .int .i64 rb.f0.f1, .int .i64 rb.f1.f0, .int .i64 rb.f1.f1] 31)).alloc (.cells #[.int .i64 hd, .int .i64 layer] 33)).alloc (.cells #[.int .i64 0, .int .i64 0, .int .i64 0, .int .i64 0] 31)) = W1 at mT m6 m7 m9 m10 mB ⊢
  clear hW_
  generalize hg6 : w.heap.size = g6 at m6 m7 m9 m10 ⊢
  have hn_T_6 : b ≠ g6 := by omega
  have hn_6_T : g6 ≠ b := hn_T_6.symm
  have hG6 : w.heap.size ≤ g6 := by omega
  generalize hg7 : g6 + 1 = g7 at m7 m9 m10 ⊢
  have hn_T_7 : b ≠ g7 := by omega
  have hn_6_7 : g6 ≠ g7 := by omega
  have hn_7_T : g7 ≠ b := hn_T_7.symm
  have hn_7_6 : g7 ≠ g6 := hn_6_7.symm
  have hG7 : w.heap.size ≤ g7 := by omega
  generalize hg9 : g7 + 1 = g9 at m9 m10 ⊢
  have hn_T_9 : b ≠ g9 := by omega
  have hn_6_9 : g6 ≠ g9 := by omega
  have hn_7_9 : g7 ≠ g9 := by omega
  have hn_9_T : g9 ≠ b := hn_T_9.symm
  have hn_9_6 : g9 ≠ g6 := hn_6_9.symm
  have hn_9_7 : g9 ≠ g7 := hn_7_9.symm
  have hG9 : w.heap.size ≤ g9 := by omega
  generalize hg10 : g9 + 1 = g10 at m10 ⊢
  have hn_T_10 : b ≠ g10 := by omega
  have hn_6_10 : g6 ≠ g10 := by omega
  have hn_7_10 : g7 ≠ g10 := by omega
  have hn_9_10 : g9 ≠ g10 := by omega
  have hn_10_T : g10 ≠ b := hn_T_10.symm
  have hn_10_6 : g10 ≠ g6 := hn_6_10.symm
  have hn_10_7 : g10 ≠ g7 := hn_7_10.symm
  have hn_10_9 : g10 ≠ g9 := hn_9_10.symm
  have hG10 : w.heap.size ≤ g10 := by omega
  clear hsz_ hl_T
  try clear hg10
  try clear hg9
  try clear hg7
  try clear hg6
  have hs_W1 : w.heap.size ≤ W1.heap.size := mB.size
  replace mT := blk_drew mT
  replace m6 := blk_drew m6
  replace m7 := blk_drew m7
  replace m9 := blk_drew m9
  replace m10 := blk_drew m10
  replace mB := below_drew1 mB
  refine start_ (n := 6) (S := fun w' => w'.cell? ⟨g9, 0, none⟩ = some (.int .i64 hd) ∧ w'.cell? ⟨g9, 1, none⟩ = some (.int .i64 layer)) (ds := [5]) #[false, false, false, false, false, false] (by kernel_rfl) rfl rfl ⟨((blk_cell m9 0).trans rfl), ((blk_cell m9 1).trans rfl)⟩ (fun hHeld => ?_)
  generalize hWd : World.drew _ = Wx at mT m6 m7 m9 m10 mB hHeld ⊢
  clear hWd
  refine pure_ (i := 1) (N := some 14) (v := ?_) (a' := ?_) #[false, true, false, false, false, false] rfl rfl (by kernel_rfl) (fun _ _ _ h => h) (Or.inl ⟨by rfl, ?_⟩) ?_ ?_
  rotate_left
  · intro w'
    go_simp
    with_reducible rfl
  rotate_left
  · simp only [Act.put, List.setIfInBounds_toArray, List.set_cons_zero, List.set_cons_succ, i64_w, i32_w]
    rfl
  refine take_ (i := 2) (N := some 15) (v := ?_) (a' := ?_) #[false, true, true, false, false, false] rfl rfl (by kernel_rfl) (fun _ _ _ h => h) (Or.inl ⟨by rfl, ?_⟩) hHeld ?_ ?_
  rotate_left
  · rintro w' ⟨s0, s1⟩
    go_simp
    with_reducible rfl
  rotate_left
  · simp only [Act.put, List.setIfInBounds_toArray, List.set_cons_zero, List.set_cons_succ, i64_w, i32_w]
    rfl
  refine join_ (σ := Nat) 1 #[true, true, true, true, true, false] (fun s => [(13, .agg #[.int .i64 0, .int .i64 1000, .int .i64 707, .int .i64 707, .int .i64 1000, .int .i64 0, .int .i64 707, .int .i64 (-707), .int .i64 0, .int .i64 (-1000), .int .i64 (-707), .int .i64 (-707), .int .i64 (-1000), .int .i64 0, .int .i64 (-707), .int .i64 707, .int .i64 0, .int .i64 0]), (16, .agg #[.int .i64 d0, .int .i64 d1]), (11, .pointer (some ⟨s, 0, none⟩))]) (fun s w' => Blk w' b #[.int .i64 se.nx, .int .i64 se.ny, .int .i64 se.cell, .int .i64 se.slot, .int .i64 se.slots, .int .i64 se.layers, .int .i64 se.most, .slice A7 se.shores.length c7, .slice A8 se.currents.length c8, .int .i64 v.speed, .int .i64 v.dive, .int .i64 v.use.f0, .int .i64 v.use.f1, .int .i64 v.drift.f0, .int .i64 v.drift.f1, .int .i64 v.reserve] 110 ∧ Blk w' g6 #[.int .i64 x.f0.f0, .int .i64 x.f0.f1, .int .i64 x.f1.f0, .int .i64 x.f1.f1] 31 ∧ Blk w' g7 #[.int .i64 rb.f0.f0, .int .i64 rb.f0.f1, .int .i64 rb.f1.f0, .int .i64 rb.f1.f1] 31 ∧ Blk w' g9 #[.int .i64 hd, .int .i64 layer] 33 ∧ Blk w' g10 #[.int .i64 0, .int .i64 0, .int .i64 0, .int .i64 0] 31 ∧ Blk w' (s) #[.int .i64 0, .int .i64 0] 161 ∧ Below w.heap.size w w' ∧ w.heap.size ≤ s ∧ b ≠ s ∧ g6 ≠ s ∧ g7 ≠ s ∧ g9 ≠ s ∧ g10 ≠ s) ?_ ?_
  rotate_left
  · intro hCont
    refine two_ (i := 0) (j := 4) (Ni := some 13) (Nj := some 11) #[true, true, true, false, false, false] #[false, true, true, false, true, false] rfl rfl rfl rfl (by kernel_rfl) (by decide) (by decide) (fun K hK => ?_) (fun K hK => ?_)
    · skip
      have hcon_ := dirs_any (Wx)
      refine goes_ Try.func130 (by kernel_rfl) rfl #[] (by rfl) rfl rfl (by simp only [List.map_toArray, List.map_cons, List.map_nil]) ?_
      with_reducible refine (hcon_).mono ?_
      rintro e w0 ⟨rfl, hb⟩
      refine ⟨_, rfl, ?_⟩
      clear hcon_
      replace mT := blk_below mT hb
      replace m6 := blk_below m6 hb
      replace m7 := blk_below m7 hb
      replace m9 := blk_below m9 hb
      replace m10 := blk_below m10 hb
      replace mB := below_step mB hb
      clear hb
      refine hK.out _ _ ⟨((blk_cell m9 0).trans rfl), ((blk_cell m9 1).trans rfl)⟩ (fun hHeld => ?_)
      clear hK K
      refine norm_ (a' := ?_) ?_ ?_
      rotate_left
      · show Act.put _ (some 13) _ = _
        simp only [Act.put, List.setIfInBounds_toArray, List.set_cons_zero, List.set_cons_succ, i64_w, i32_w]
        rfl
      refine take_ (i := 3) (N := some 16) (v := ?_) (a' := ?_) #[true, true, true, true, false, false] rfl rfl (by kernel_rfl) (fun _ _ _ h => h) (Or.inl ⟨by rfl, ?_⟩) hHeld ?_ ?_
      rotate_left
      · rintro w' ⟨s0, s1⟩
        go_simp
        with_reducible rfl
      rotate_left
      · simp only [Act.put, List.setIfInBounds_toArray, List.set_cons_zero, List.set_cons_succ, i64_w, i32_w]
        rfl
      refine one_ (i := 4) (N := some 11) #[true, true, true, true, true, false] rfl rfl (by kernel_rfl) (by decide) (fun K hK => ?_)
      have hn_T_11 : b ≠ w0.heap.size := by have h_ := blk_lt mT; omega
      have hn_6_11 : g6 ≠ w0.heap.size := by have h_ := blk_lt m6; omega
      have hn_7_11 : g7 ≠ w0.heap.size := by have h_ := blk_lt m7; omega
      have hn_9_11 : g9 ≠ w0.heap.size := by have h_ := blk_lt m9; omega
      have hn_10_11 : g10 ≠ w0.heap.size := by have h_ := blk_lt m10; omega
      have hG11 : w.heap.size ≤ w0.heap.size := by have h_ := mB.size; omega
      replace mT := blk_alloc mT (.cells #[.int .i64 0, .int .i64 0] 161)
      replace m6 := blk_alloc m6 (.cells #[.int .i64 0, .int .i64 0] 161)
      replace m7 := blk_alloc m7 (.cells #[.int .i64 0, .int .i64 0] 161)
      replace m9 := blk_alloc m9 (.cells #[.int .i64 0, .int .i64 0] 161)
      replace m10 := blk_alloc m10 (.cells #[.int .i64 0, .int .i64 0] 161)
      have m11 : Blk (w0.alloc (.cells #[.int .i64 0, .int .i64 0] 161)) (w0.heap.size) #[.int .i64 0, .int .i64 0] 161 := by have h_ := blk_new w0 (.cells #[.int .i64 0, .int .i64 0] 161); first | exact h_ | (simp only [World.size_alloc] at h_; exact h_)
      replace mB := below_alloc mB (.cells #[.int .i64 0, .int .i64 0] 161)
      refine value_ (w1 := ?_) (v := ?_) (by rfl) rfl ?_ ?_
      rotate_left 2
      · go_simp
        constructor
        · rfl
        · rfl
      refine hK.out _ _ ⟨((blk_cell m9 0).trans rfl), ((blk_cell m9 1).trans rfl)⟩ (fun hHeld => ?_)
      clear hK K
      refine norm_ (a' := ?_) ?_ ?_
      rotate_left
      · show Act.put _ (some 11) _ = _
        simp only [Act.put, List.setIfInBounds_toArray, List.set_cons_zero, List.set_cons_succ, i64_w, i32_w]
        rfl
      exact norm_ (by first | (simp only [putAll, Act.put, List.setIfInBounds_toArray, List.set_cons_zero, List.set_cons_succ]; done) | (simp only [putAll, Act.put, List.setIfInBounds_toArray, List.set_cons_zero, List.set_cons_succ]; rfl)) (hCont (w0.heap.size) _ ⟨mT, m6, m7, m9, m10, m11, mB, hG11, hn_T_11, hn_6_11, hn_7_11, hn_9_11, hn_10_11⟩)
    · skip
      have hn_T_11 : b ≠ Wx.heap.size := by have h_ := blk_lt mT; omega
      have hn_6_11 : g6 ≠ Wx.heap.size := by have h_ := blk_lt m6; omega
      have hn_7_11 : g7 ≠ Wx.heap.size := by have h_ := blk_lt m7; omega
      have hn_9_11 : g9 ≠ Wx.heap.size := by have h_ := blk_lt m9; omega
      have hn_10_11 : g10 ≠ Wx.heap.size := by have h_ := blk_lt m10; omega
      have hG11 : w.heap.size ≤ Wx.heap.size := by have h_ := mB.size; omega
      replace mT := blk_alloc mT (.cells #[.int .i64 0, .int .i64 0] 161)
      replace m6 := blk_alloc m6 (.cells #[.int .i64 0, .int .i64 0] 161)
      replace m7 := blk_alloc m7 (.cells #[.int .i64 0, .int .i64 0] 161)
      replace m9 := blk_alloc m9 (.cells #[.int .i64 0, .int .i64 0] 161)
      replace m10 := blk_alloc m10 (.cells #[.int .i64 0, .int .i64 0] 161)
      have m11 : Blk (Wx.alloc (.cells #[.int .i64 0, .int .i64 0] 161)) (Wx.heap.size) #[.int .i64 0, .int .i64 0] 161 := by have h_ := blk_new Wx (.cells #[.int .i64 0, .int .i64 0] 161); first | exact h_ | (simp only [World.size_alloc] at h_; exact h_)
      replace mB := below_alloc mB (.cells #[.int .i64 0, .int .i64 0] 161)
      refine value_ (w1 := ?_) (v := ?_) (by rfl) rfl ?_ ?_
      rotate_left 2
      · go_simp
        constructor
        · rfl
        · rfl
      refine hK.out _ _ ⟨((blk_cell m9 0).trans rfl), ((blk_cell m9 1).trans rfl)⟩ (fun hHeld => ?_)
      clear hK K
      refine norm_ (a' := ?_) ?_ ?_
      rotate_left
      · show Act.put _ (some 11) _ = _
        simp only [Act.put, List.setIfInBounds_toArray, List.set_cons_zero, List.set_cons_succ, i64_w, i32_w]
        rfl
      refine one_ (i := 0) (N := some 13) #[true, true, true, false, true, false] rfl rfl (by kernel_rfl) (by decide) (fun K hK => ?_)
      have hcon_ := dirs_any ((Wx.alloc (.cells #[.int .i64 0, .int .i64 0] 161)))
      refine goes_ Try.func130 (by kernel_rfl) rfl #[] (by rfl) rfl rfl (by simp only [List.map_toArray, List.map_cons, List.map_nil]) ?_
      with_reducible refine (hcon_).mono ?_
      rintro e w0 ⟨rfl, hb⟩
      refine ⟨_, rfl, ?_⟩
      clear hcon_
      replace mT := blk_below mT hb
      replace m6 := blk_below m6 hb
      replace m7 := blk_below m7 hb
      replace m9 := blk_below m9 hb
      replace m10 := blk_below m10 hb
      replace m11 := blk_below m11 hb
      replace mB := below_step mB hb
      clear hb
      refine hK.out _ _ ⟨((blk_cell m9 0).trans rfl), ((blk_cell m9 1).trans rfl)⟩ (fun hHeld => ?_)
      clear hK K
      refine norm_ (a' := ?_) ?_ ?_
      rotate_left
      · show Act.put _ (some 13) _ = _
        simp only [Act.put, List.setIfInBounds_toArray, List.set_cons_zero, List.set_cons_succ, i64_w, i32_w]
        rfl
      refine take_ (i := 3) (N := some 16) (v := ?_) (a' := ?_) #[true, true, true, true, true, false] rfl rfl (by kernel_rfl) (fun _ _ _ h => h) (Or.inl ⟨by rfl, ?_⟩) hHeld ?_ ?_
      rotate_left
      · rintro w' ⟨s0, s1⟩
        go_simp
        with_reducible rfl
      rotate_left
      · simp only [Act.put, List.setIfInBounds_toArray, List.set_cons_zero, List.set_cons_succ, i64_w, i32_w]
        rfl
      exact norm_ (by first | (simp only [putAll, Act.put, List.setIfInBounds_toArray, List.set_cons_zero, List.set_cons_succ]; done) | (simp only [putAll, Act.put, List.setIfInBounds_toArray, List.set_cons_zero, List.set_cons_succ]; rfl)) (hCont (Wx.heap.size) _ ⟨mT, m6, m7, m9, m10, m11, mB, hG11, hn_T_11, hn_6_11, hn_7_11, hn_9_11, hn_10_11⟩)
  rintro g11 Wg ⟨mT, m6, m7, m9, m10, m11, mB, hG11, hn_T_11, hn_6_11, hn_7_11, hn_9_11, hn_10_11⟩
  have hHeld : (Wg.cell? ⟨g9, 0, none⟩ = some (.int .i64 hd) ∧ Wg.cell? ⟨g9, 1, none⟩ = some (.int .i64 layer)) := ⟨((blk_cell m9 0).trans rfl), ((blk_cell m9 1).trans rfl)⟩
  refine norm_ (a' := ?_) ?_ ?_
  rotate_left
  · simp only [putAll, Act.put, List.setIfInBounds_toArray, List.set_cons_zero, List.set_cons_succ]
    rfl
  refine last_ (i := 5) (N := none) #[true, true, true, true, true, true] rfl rfl (by kernel_rfl) (by decide) (fun K hK => ?_)
  have hf0_ := blk_frozen m11 0
  have hc0_ := (blk_cell m11 0).trans rfl
  have hf1_ := blk_frozen m11 1
  have hc1_ := (blk_cell m11 1).trans rfl
  refine skip_ (w1 := ?_) (by rfl) rfl ?_ ?_
  rotate_left
  · go_simp
    rfl
  clear hf0_ hc0_ hf1_ hc1_
  replace mT : Blk (Wg.setCell ⟨g11, 0, none⟩ (.int .i64 d0)) b #[.int .i64 se.nx, .int .i64 se.ny, .int .i64 se.cell, .int .i64 se.slot, .int .i64 se.slots, .int .i64 se.layers, .int .i64 se.most, .slice A7 se.shores.length c7, .slice A8 se.currents.length c8, .int .i64 v.speed, .int .i64 v.dive, .int .i64 v.use.f0, .int .i64 v.use.f1, .int .i64 v.drift.f0, .int .i64 v.drift.f1, .int .i64 v.reserve] 110 := blk_far (p := ⟨g11, 0, none⟩) mT hn_T_11 _
  replace m6 : Blk (Wg.setCell ⟨g11, 0, none⟩ (.int .i64 d0)) g6 #[.int .i64 x.f0.f0, .int .i64 x.f0.f1, .int .i64 x.f1.f0, .int .i64 x.f1.f1] 31 := blk_far (p := ⟨g11, 0, none⟩) m6 hn_6_11 _
  replace m7 : Blk (Wg.setCell ⟨g11, 0, none⟩ (.int .i64 d0)) g7 #[.int .i64 rb.f0.f0, .int .i64 rb.f0.f1, .int .i64 rb.f1.f0, .int .i64 rb.f1.f1] 31 := blk_far (p := ⟨g11, 0, none⟩) m7 hn_7_11 _
  replace m9 : Blk (Wg.setCell ⟨g11, 0, none⟩ (.int .i64 d0)) g9 #[.int .i64 hd, .int .i64 layer] 33 := blk_far (p := ⟨g11, 0, none⟩) m9 hn_9_11 _
  replace m10 : Blk (Wg.setCell ⟨g11, 0, none⟩ (.int .i64 d0)) g10 #[.int .i64 0, .int .i64 0, .int .i64 0, .int .i64 0] 31 := blk_far (p := ⟨g11, 0, none⟩) m10 hn_10_11 _
  replace m11 : Blk (Wg.setCell ⟨g11, 0, none⟩ (.int .i64 d0)) g11 #[.int .i64 d0, .int .i64 0] 161 := blk_put m11 0 _ rfl
  replace mB : Below w.heap.size w (Wg.setCell ⟨g11, 0, none⟩ (.int .i64 d0)) := mB.setCell (p := ⟨g11, 0, none⟩) hG11 _
  replace mT : Blk ((Wg.setCell ⟨g11, 0, none⟩ (.int .i64 d0)).setCell ⟨g11, 1, none⟩ (.int .i64 d1)) b #[.int .i64 se.nx, .int .i64 se.ny, .int .i64 se.cell, .int .i64 se.slot, .int .i64 se.slots, .int .i64 se.layers, .int .i64 se.most, .slice A7 se.shores.length c7, .slice A8 se.currents.length c8, .int .i64 v.speed, .int .i64 v.dive, .int .i64 v.use.f0, .int .i64 v.use.f1, .int .i64 v.drift.f0, .int .i64 v.drift.f1, .int .i64 v.reserve] 110 := blk_far (p := ⟨g11, 1, none⟩) mT hn_T_11 _
  replace m6 : Blk ((Wg.setCell ⟨g11, 0, none⟩ (.int .i64 d0)).setCell ⟨g11, 1, none⟩ (.int .i64 d1)) g6 #[.int .i64 x.f0.f0, .int .i64 x.f0.f1, .int .i64 x.f1.f0, .int .i64 x.f1.f1] 31 := blk_far (p := ⟨g11, 1, none⟩) m6 hn_6_11 _
  replace m7 : Blk ((Wg.setCell ⟨g11, 0, none⟩ (.int .i64 d0)).setCell ⟨g11, 1, none⟩ (.int .i64 d1)) g7 #[.int .i64 rb.f0.f0, .int .i64 rb.f0.f1, .int .i64 rb.f1.f0, .int .i64 rb.f1.f1] 31 := blk_far (p := ⟨g11, 1, none⟩) m7 hn_7_11 _
  replace m9 : Blk ((Wg.setCell ⟨g11, 0, none⟩ (.int .i64 d0)).setCell ⟨g11, 1, none⟩ (.int .i64 d1)) g9 #[.int .i64 hd, .int .i64 layer] 33 := blk_far (p := ⟨g11, 1, none⟩) m9 hn_9_11 _
  replace m10 : Blk ((Wg.setCell ⟨g11, 0, none⟩ (.int .i64 d0)).setCell ⟨g11, 1, none⟩ (.int .i64 d1)) g10 #[.int .i64 0, .int .i64 0, .int .i64 0, .int .i64 0] 31 := blk_far (p := ⟨g11, 1, none⟩) m10 hn_10_11 _
  replace m11 : Blk ((Wg.setCell ⟨g11, 0, none⟩ (.int .i64 d0)).setCell ⟨g11, 1, none⟩ (.int .i64 d1)) g11 #[.int .i64 d0, .int .i64 d1] 161 := blk_put m11 1 _ rfl
  replace mB : Below w.heap.size w ((Wg.setCell ⟨g11, 0, none⟩ (.int .i64 d0)).setCell ⟨g11, 1, none⟩ (.int .i64 d1)) := mB.setCell (p := ⟨g11, 1, none⟩) hG11 _
  refine hK.out _ _ ?_
  clear hK K
  refine done_ (by kernel_rfl) ?_
  try clear hHeld
  generalize hW_ : ((Wg.setCell ⟨g11, 0, none⟩ (.int .i64 d0)).setCell ⟨g11, 1, none⟩ (.int .i64 d1)) = W2 at mT m6 m7 m9 m10 m11 mB ⊢
  clear hW_
  have hs_W2 : w.heap.size ≤ W2.heap.size := mB.size
  go_wp2_with fail
  replace mT := blk_drew mT
  replace m6 := blk_drew m6
  replace m7 := blk_drew m7
  replace m9 := blk_drew m9
  replace m10 := blk_drew m10
  replace m11 := blk_drew m11
  replace mB := below_drew1 mB
  refine start_ (n := 15) (S := fun w' => w'.cell? ⟨g7, 0, none⟩ = some (.int .i64 rb.f0.f0) ∧ w'.cell? ⟨g7, 1, none⟩ = some (.int .i64 rb.f0.f1) ∧ w'.cell? ⟨g7, 2, none⟩ = some (.int .i64 rb.f1.f0) ∧ w'.cell? ⟨g7, 3, none⟩ = some (.int .i64 rb.f1.f1) ∧ w'.cell? ⟨g9, 0, none⟩ = some (.int .i64 hd) ∧ w'.cell? ⟨g9, 1, none⟩ = some (.int .i64 layer) ∧ w'.cell? ⟨b, 10, none⟩ = some (.int .i64 v.dive)) (ds := [14]) #[false, false, false, false, false, false, false, false, false, false, false, false, false, false, false] (by kernel_rfl) rfl rfl ⟨((blk_cell m7 0).trans rfl), ((blk_cell m7 1).trans rfl), ((blk_cell m7 2).trans rfl), ((blk_cell m7 3).trans rfl), ((blk_cell m9 0).trans rfl), ((blk_cell m9 1).trans rfl), ((blk_cell mT 10).trans rfl)⟩ (fun hHeld => ?_)
  generalize hWd : World.drew _ = Wx at mT m6 m7 m9 m10 m11 mB hHeld ⊢
  clear hWd
  refine pure_ (i := 0) (N := some 17) (v := ?_) (a' := ?_) #[true, false, false, false, false, false, false, false, false, false, false, false, false, false, false] rfl rfl (by kernel_rfl) (fun _ _ _ h => h) (Or.inl ⟨by rfl, ?_⟩) ?_ ?_
  rotate_left
  · intro w'
    go_simp
    with_reducible rfl
  rotate_left
  · simp only [Act.put, List.setIfInBounds_toArray, List.set_cons_zero, List.set_cons_succ, i64_w, i32_w]
    rfl
  refine pure_ (i := 2) (N := some 19) (v := ?_) (a' := ?_) #[true, false, true, false, false, false, false, false, false, false, false, false, false, false, false] rfl rfl (by kernel_rfl) (fun _ _ _ h => h) (Or.inl ⟨by rfl, ?_⟩) ?_ ?_
  rotate_left
  · intro w'
    go_simp
    with_reducible rfl
  rotate_left
  · simp only [Act.put, List.setIfInBounds_toArray, List.set_cons_zero, List.set_cons_succ, i64_w, i32_w]
    rfl
  refine pure_ (i := 4) (N := some 21) (v := ?_) (a' := ?_) #[true, false, true, false, true, false, false, false, false, false, false, false, false, false, false] rfl rfl (by kernel_rfl) (fun _ _ _ h => h) (Or.inl ⟨by rfl, ?_⟩) ?_ ?_
  rotate_left
  · intro w'
    go_simp
    with_reducible rfl
  rotate_left
  · simp only [Act.put, List.setIfInBounds_toArray, List.set_cons_zero, List.set_cons_succ, i64_w, i32_w]
    rfl
  refine pure_ (i := 5) (N := some 22) (v := ?_) (a' := ?_) #[true, false, true, false, true, true, false, false, false, false, false, false, false, false, false] rfl rfl (by kernel_rfl) (fun _ _ _ h => h) (Or.inl ⟨by rfl, ?_⟩) ?_ ?_
  rotate_left
  · intro w'
    go_simp
    with_reducible rfl
  rotate_left
  · simp only [Act.put, List.setIfInBounds_toArray, List.set_cons_zero, List.set_cons_succ, i64_w, i32_w]
    rfl
  refine pure_ (i := 6) (N := some 23) (v := ?_) (a' := ?_) #[true, false, true, false, true, true, true, false, false, false, false, false, false, false, false] rfl rfl (by kernel_rfl) (fun _ _ _ h => h) (Or.inl ⟨by rfl, ?_⟩) ?_ ?_
  rotate_left
  · intro w'
    go_simp
    with_reducible rfl
  rotate_left
  · simp only [Act.put, List.setIfInBounds_toArray, List.set_cons_zero, List.set_cons_succ, i64_w, i32_w]
    rfl
  refine pure_ (i := 7) (N := some 24) (v := ?_) (a' := ?_) #[true, false, true, false, true, true, true, true, false, false, false, false, false, false, false] rfl rfl (by kernel_rfl) (fun _ _ _ h => h) (Or.inl ⟨by rfl, ?_⟩) ?_ ?_
  rotate_left
  · intro w'
    go_simp
    with_reducible rfl
  rotate_left
  · simp only [Act.put, List.setIfInBounds_toArray, List.set_cons_zero, List.set_cons_succ, i64_w, i32_w]
    rfl
  refine pure_ (i := 8) (N := some 25) (v := ?_) (a' := ?_) #[true, false, true, false, true, true, true, true, true, false, false, false, false, false, false] rfl rfl (by kernel_rfl) (fun _ _ _ h => h) (Or.inl ⟨by rfl, ?_⟩) ?_ ?_
  rotate_left
  · intro w'
    go_simp
    with_reducible rfl
  rotate_left
  · simp only [Act.put, List.setIfInBounds_toArray, List.set_cons_zero, List.set_cons_succ, i64_w, i32_w]
    rfl
  refine pure_ (i := 9) (N := some 26) (v := ?_) (a' := ?_) #[true, false, true, false, true, true, true, true, true, true, false, false, false, false, false] rfl rfl (by kernel_rfl) (fun _ _ _ h => h) (Or.inl ⟨by rfl, ?_⟩) ?_ ?_
  rotate_left
  · intro w'
    go_simp
    with_reducible rfl
  rotate_left
  · simp only [Act.put, List.setIfInBounds_toArray, List.set_cons_zero, List.set_cons_succ, i64_w, i32_w]
    rfl
  refine take_ (i := 1) (N := some 18) (v := ?_) (a' := ?_) #[true, true, true, false, true, true, true, true, true, true, false, false, false, false, false] rfl rfl (by kernel_rfl) (fun _ _ _ h => h) (Or.inl ⟨by rfl, ?_⟩) hHeld ?_ ?_
  rotate_left
  · rintro w' ⟨s0, s1, s2, s3, s4, s5, s6⟩
    go_simp
    with_reducible rfl
  rotate_left
  · simp only [Act.put, List.setIfInBounds_toArray, List.set_cons_zero, List.set_cons_succ, i64_w, i32_w]
    rfl
  refine take_ (i := 3) (N := some 20) (v := ?_) (a' := ?_) #[true, true, true, true, true, true, true, true, true, true, false, false, false, false, false] rfl rfl (by kernel_rfl) (fun _ _ _ h => h) (Or.inl ⟨by rfl, ?_⟩) hHeld ?_ ?_
  rotate_left
  · rintro w' ⟨s0, s1, s2, s3, s4, s5, s6⟩
    go_simp
    with_reducible rfl
  rotate_left
  · simp only [Act.put, List.setIfInBounds_toArray, List.set_cons_zero, List.set_cons_succ, i64_w, i32_w]
    rfl
  refine take_ (i := 10) (N := some 27) (v := ?_) (a' := ?_) #[true, true, true, true, true, true, true, true, true, true, true, false, false, false, false] rfl rfl (by kernel_rfl) (fun _ _ _ h => h) (Or.inl ⟨by rfl, ?_⟩) hHeld ?_ ?_
  rotate_left
  · rintro w' ⟨s0, s1, s2, s3, s4, s5, s6⟩
    go_simp
    with_reducible rfl
  rotate_left
  · simp only [Act.put, List.setIfInBounds_toArray, List.set_cons_zero, List.set_cons_succ, i64_w, i32_w]
    rfl
  refine pure_ (i := 11) (N := some 28) (v := ?_) (a' := ?_) #[true, true, true, true, true, true, true, true, true, true, true, true, false, false, false] rfl rfl (by kernel_rfl) (fun _ _ _ h => h) (Or.inl ⟨by rfl, ?_⟩) ?_ ?_
  rotate_left
  · intro w'
    go_simp
    with_reducible rfl
  rotate_left
  · simp only [Act.put, List.setIfInBounds_toArray, List.set_cons_zero, List.set_cons_succ, i64_w, i32_w]
    rfl
  refine join_ (σ := Nat) 1 #[true, true, true, true, true, true, true, true, true, true, true, true, true, true, false] (fun s => [(29, .agg #[.int .i64 y.f0.f0, .int .i64 y.f0.f1, .int .i64 y.f1.f0, .int .i64 y.f1.f1]), (12, .pointer (some ⟨s, 0, none⟩))]) (fun s w' => Blk w' b #[.int .i64 se.nx, .int .i64 se.ny, .int .i64 se.cell, .int .i64 se.slot, .int .i64 se.slots, .int .i64 se.layers, .int .i64 se.most, .slice A7 se.shores.length c7, .slice A8 se.currents.length c8, .int .i64 v.speed, .int .i64 v.dive, .int .i64 v.use.f0, .int .i64 v.use.f1, .int .i64 v.drift.f0, .int .i64 v.drift.f1, .int .i64 v.reserve] 110 ∧ Blk w' g6 #[.int .i64 x.f0.f0, .int .i64 x.f0.f1, .int .i64 x.f1.f0, .int .i64 x.f1.f1] 31 ∧ Blk w' g7 #[.int .i64 rb.f0.f0, .int .i64 rb.f0.f1, .int .i64 rb.f1.f0, .int .i64 rb.f1.f1] 31 ∧ Blk w' g9 #[.int .i64 hd, .int .i64 layer] 33 ∧ Blk w' g10 #[.int .i64 0, .int .i64 0, .int .i64 0, .int .i64 0] 31 ∧ Blk w' g11 #[.int .i64 d0, .int .i64 d1] 161 ∧ Blk w' (s) #[.int .i64 0, .int .i64 0, .int .i64 0, .int .i64 0] 31 ∧ Below w.heap.size w w' ∧ w.heap.size ≤ s ∧ b ≠ s ∧ g6 ≠ s ∧ g7 ≠ s ∧ g9 ≠ s ∧ g10 ≠ s ∧ g11 ≠ s) ?_ ?_
  rotate_left
  · intro hCont
    refine two_ (i := 12) (j := 13) (Ni := some 29) (Nj := some 12) #[true, true, true, true, true, true, true, true, true, true, true, true, true, false, false] #[true, true, true, true, true, true, true, true, true, true, true, true, false, true, false] rfl rfl rfl rfl (by kernel_rfl) (by decide) (by decide) (fun K hK => ?_) (fun K hK => ?_)
    · skip
      have hcon_ := kA _ w1 (Wx) (hT.below mB)
      refine goes_ Try.func70 (by kernel_rfl) rfl #[.pointer (some ⟨b, 0, none⟩), .agg #[.int .i64 rb.f0.f0, .int .i64 rb.f0.f1, .int .i64 rb.f1.f0, .int .i64 rb.f1.f1], .int .i64 layer, .int .i64 t, .int .i64 (wrap64 (t + v.dive))] (by rfl) rfl rfl (by simp only [List.map_toArray, List.map_cons, List.map_nil]; rfl) ?_
      with_reducible refine (hcon_).mono ?_
      rintro e w12 ⟨rfl, hb⟩
      refine ⟨_, rfl, ?_⟩
      clear hcon_
      replace mT := blk_below mT hb
      replace m6 := blk_below m6 hb
      replace m7 := blk_below m7 hb
      replace m9 := blk_below m9 hb
      replace m10 := blk_below m10 hb
      replace m11 := blk_below m11 hb
      replace mB := below_step mB hb
      clear hb
      refine hK.out _ _ ⟨((blk_cell m7 0).trans rfl), ((blk_cell m7 1).trans rfl), ((blk_cell m7 2).trans rfl), ((blk_cell m7 3).trans rfl), ((blk_cell m9 0).trans rfl), ((blk_cell m9 1).trans rfl), ((blk_cell mT 10).trans rfl)⟩ (fun hHeld => ?_)
      clear hK K
      refine norm_ (a' := ?_) ?_ ?_
      rotate_left
      · show Act.put _ (some 29) _ = _
        simp only [Act.put, List.setIfInBounds_toArray, List.set_cons_zero, List.set_cons_succ, i64_w, i32_w]
        rfl
      refine one_ (i := 13) (N := some 12) #[true, true, true, true, true, true, true, true, true, true, true, true, true, true, false] rfl rfl (by kernel_rfl) (by decide) (fun K hK => ?_)
      have hn_T_12 : b ≠ w12.heap.size := by have h_ := blk_lt mT; omega
      have hn_6_12 : g6 ≠ w12.heap.size := by have h_ := blk_lt m6; omega
      have hn_7_12 : g7 ≠ w12.heap.size := by have h_ := blk_lt m7; omega
      have hn_9_12 : g9 ≠ w12.heap.size := by have h_ := blk_lt m9; omega
      have hn_10_12 : g10 ≠ w12.heap.size := by have h_ := blk_lt m10; omega
      have hn_11_12 : g11 ≠ w12.heap.size := by have h_ := blk_lt m11; omega
      have hG12 : w.heap.size ≤ w12.heap.size := by have h_ := mB.size; omega
      replace mT := blk_alloc mT (.cells #[.int .i64 0, .int .i64 0, .int .i64 0, .int .i64 0] 31)
      replace m6 := blk_alloc m6 (.cells #[.int .i64 0, .int .i64 0, .int .i64 0, .int .i64 0] 31)
      replace m7 := blk_alloc m7 (.cells #[.int .i64 0, .int .i64 0, .int .i64 0, .int .i64 0] 31)
      replace m9 := blk_alloc m9 (.cells #[.int .i64 0, .int .i64 0, .int .i64 0, .int .i64 0] 31)
      replace m10 := blk_alloc m10 (.cells #[.int .i64 0, .int .i64 0, .int .i64 0, .int .i64 0] 31)
      replace m11 := blk_alloc m11 (.cells #[.int .i64 0, .int .i64 0, .int .i64 0, .int .i64 0] 31)
      have m12 : Blk (w12.alloc (.cells #[.int .i64 0, .int .i64 0, .int .i64 0, .int .i64 0] 31)) (w12.heap.size) #[.int .i64 0, .int .i64 0, .int .i64 0, .int .i64 0] 31 := by have h_ := blk_new w12 (.cells #[.int .i64 0, .int .i64 0, .int .i64 0, .int .i64 0] 31); first | exact h_ | (simp only [World.size_alloc] at h_; exact h_)
      replace mB := below_alloc mB (.cells #[.int .i64 0, .int .i64 0, .int .i64 0, .int .i64 0] 31)
      refine value_ (w1 := ?_) (v := ?_) (by rfl) rfl ?_ ?_
      rotate_left 2
      · go_simp
        constructor
        · rfl
        · rfl
      refine hK.out _ _ ⟨((blk_cell m7 0).trans rfl), ((blk_cell m7 1).trans rfl), ((blk_cell m7 2).trans rfl), ((blk_cell m7 3).trans rfl), ((blk_cell m9 0).trans rfl), ((blk_cell m9 1).trans rfl), ((blk_cell mT 10).trans rfl)⟩ (fun hHeld => ?_)
      clear hK K
      refine norm_ (a' := ?_) ?_ ?_
      rotate_left
      · show Act.put _ (some 12) _ = _
        simp only [Act.put, List.setIfInBounds_toArray, List.set_cons_zero, List.set_cons_succ, i64_w, i32_w]
        rfl
      exact norm_ (by first | (simp only [putAll, Act.put, List.setIfInBounds_toArray, List.set_cons_zero, List.set_cons_succ]; done) | (simp only [putAll, Act.put, List.setIfInBounds_toArray, List.set_cons_zero, List.set_cons_succ]; rfl)) (hCont (w12.heap.size) _ ⟨mT, m6, m7, m9, m10, m11, m12, mB, hG12, hn_T_12, hn_6_12, hn_7_12, hn_9_12, hn_10_12, hn_11_12⟩)
    · skip
      have hn_T_12 : b ≠ Wx.heap.size := by have h_ := blk_lt mT; omega
      have hn_6_12 : g6 ≠ Wx.heap.size := by have h_ := blk_lt m6; omega
      have hn_7_12 : g7 ≠ Wx.heap.size := by have h_ := blk_lt m7; omega
      have hn_9_12 : g9 ≠ Wx.heap.size := by have h_ := blk_lt m9; omega
      have hn_10_12 : g10 ≠ Wx.heap.size := by have h_ := blk_lt m10; omega
      have hn_11_12 : g11 ≠ Wx.heap.size := by have h_ := blk_lt m11; omega
      have hG12 : w.heap.size ≤ Wx.heap.size := by have h_ := mB.size; omega
      replace mT := blk_alloc mT (.cells #[.int .i64 0, .int .i64 0, .int .i64 0, .int .i64 0] 31)
      replace m6 := blk_alloc m6 (.cells #[.int .i64 0, .int .i64 0, .int .i64 0, .int .i64 0] 31)
      replace m7 := blk_alloc m7 (.cells #[.int .i64 0, .int .i64 0, .int .i64 0, .int .i64 0] 31)
      replace m9 := blk_alloc m9 (.cells #[.int .i64 0, .int .i64 0, .int .i64 0, .int .i64 0] 31)
      replace m10 := blk_alloc m10 (.cells #[.int .i64 0, .int .i64 0, .int .i64 0, .int .i64 0] 31)
      replace m11 := blk_alloc m11 (.cells #[.int .i64 0, .int .i64 0, .int .i64 0, .int .i64 0] 31)
      have m12 : Blk (Wx.alloc (.cells #[.int .i64 0, .int .i64 0, .int .i64 0, .int .i64 0] 31)) (Wx.heap.size) #[.int .i64 0, .int .i64 0, .int .i64 0, .int .i64 0] 31 := by have h_ := blk_new Wx (.cells #[.int .i64 0, .int .i64 0, .int .i64 0, .int .i64 0] 31); first | exact h_ | (simp only [World.size_alloc] at h_; exact h_)
      replace mB := below_alloc mB (.cells #[.int .i64 0, .int .i64 0, .int .i64 0, .int .i64 0] 31)
      refine value_ (w1 := ?_) (v := ?_) (by rfl) rfl ?_ ?_
      rotate_left 2
      · go_simp
        constructor
        · rfl
        · rfl
      refine hK.out _ _ ⟨((blk_cell m7 0).trans rfl), ((blk_cell m7 1).trans rfl), ((blk_cell m7 2).trans rfl), ((blk_cell m7 3).trans rfl), ((blk_cell m9 0).trans rfl), ((blk_cell m9 1).trans rfl), ((blk_cell mT 10).trans rfl)⟩ (fun hHeld => ?_)
      clear hK K
      refine norm_ (a' := ?_) ?_ ?_
      rotate_left
      · show Act.put _ (some 12) _ = _
        simp only [Act.put, List.setIfInBounds_toArray, List.set_cons_zero, List.set_cons_succ, i64_w, i32_w]
        rfl
      refine one_ (i := 12) (N := some 29) #[true, true, true, true, true, true, true, true, true, true, true, true, true, true, false] rfl rfl (by kernel_rfl) (by decide) (fun K hK => ?_)
      have hcon_ := kA _ w1 ((Wx.alloc (.cells #[.int .i64 0, .int .i64 0, .int .i64 0, .int .i64 0] 31))) (hT.below mB)
      refine goes_ Try.func70 (by kernel_rfl) rfl #[.pointer (some ⟨b, 0, none⟩), .agg #[.int .i64 rb.f0.f0, .int .i64 rb.f0.f1, .int .i64 rb.f1.f0, .int .i64 rb.f1.f1], .int .i64 layer, .int .i64 t, .int .i64 (wrap64 (t + v.dive))] (by rfl) rfl rfl (by simp only [List.map_toArray, List.map_cons, List.map_nil]; rfl) ?_
      with_reducible refine (hcon_).mono ?_
      rintro e w12 ⟨rfl, hb⟩
      refine ⟨_, rfl, ?_⟩
      clear hcon_
      replace mT := blk_below mT hb
      replace m6 := blk_below m6 hb
      replace m7 := blk_below m7 hb
      replace m9 := blk_below m9 hb
      replace m10 := blk_below m10 hb
      replace m11 := blk_below m11 hb
      replace m12 := blk_below m12 hb
      replace mB := below_step mB hb
      clear hb
      refine hK.out _ _ ⟨((blk_cell m7 0).trans rfl), ((blk_cell m7 1).trans rfl), ((blk_cell m7 2).trans rfl), ((blk_cell m7 3).trans rfl), ((blk_cell m9 0).trans rfl), ((blk_cell m9 1).trans rfl), ((blk_cell mT 10).trans rfl)⟩ (fun hHeld => ?_)
      clear hK K
      refine norm_ (a' := ?_) ?_ ?_
      rotate_left
      · show Act.put _ (some 29) _ = _
        simp only [Act.put, List.setIfInBounds_toArray, List.set_cons_zero, List.set_cons_succ, i64_w, i32_w]
        rfl
      exact norm_ (by first | (simp only [putAll, Act.put, List.setIfInBounds_toArray, List.set_cons_zero, List.set_cons_succ]; done) | (simp only [putAll, Act.put, List.setIfInBounds_toArray, List.set_cons_zero, List.set_cons_succ]; rfl)) (hCont (Wx.heap.size) _ ⟨mT, m6, m7, m9, m10, m11, m12, mB, hG12, hn_T_12, hn_6_12, hn_7_12, hn_9_12, hn_10_12, hn_11_12⟩)
  rintro g12 Wg ⟨mT, m6, m7, m9, m10, m11, m12, mB, hG12, hn_T_12, hn_6_12, hn_7_12, hn_9_12, hn_10_12, hn_11_12⟩
  have hHeld : (Wg.cell? ⟨g7, 0, none⟩ = some (.int .i64 rb.f0.f0) ∧ Wg.cell? ⟨g7, 1, none⟩ = some (.int .i64 rb.f0.f1) ∧ Wg.cell? ⟨g7, 2, none⟩ = some (.int .i64 rb.f1.f0) ∧ Wg.cell? ⟨g7, 3, none⟩ = some (.int .i64 rb.f1.f1) ∧ Wg.cell? ⟨g9, 0, none⟩ = some (.int .i64 hd) ∧ Wg.cell? ⟨g9, 1, none⟩ = some (.int .i64 layer) ∧ Wg.cell? ⟨b, 10, none⟩ = some (.int .i64 v.dive)) := ⟨((blk_cell m7 0).trans rfl), ((blk_cell m7 1).trans rfl), ((blk_cell m7 2).trans rfl), ((blk_cell m7 3).trans rfl), ((blk_cell m9 0).trans rfl), ((blk_cell m9 1).trans rfl), ((blk_cell mT 10).trans rfl)⟩
  refine norm_ (a' := ?_) ?_ ?_
  rotate_left
  · simp only [putAll, Act.put, List.setIfInBounds_toArray, List.set_cons_zero, List.set_cons_succ]
    rfl
  refine last_ (i := 14) (N := none) #[true, true, true, true, true, true, true, true, true, true, true, true, true, true, true] rfl rfl (by kernel_rfl) (by decide) (fun K hK => ?_)
  have hf0_ := blk_frozen m12 0
  have hc0_ := (blk_cell m12 0).trans rfl
  have hf1_ := blk_frozen m12 1
  have hc1_ := (blk_cell m12 1).trans rfl
  have hf2_ := blk_frozen m12 2
  have hc2_ := (blk_cell m12 2).trans rfl
  have hf3_ := blk_frozen m12 3
  have hc3_ := (blk_cell m12 3).trans rfl
  refine skip_ (w1 := ?_) (by rfl) rfl ?_ ?_
  rotate_left
  · go_simp
    rfl
  clear hf0_ hc0_ hf1_ hc1_ hf2_ hc2_ hf3_ hc3_
  replace mT : Blk (Wg.setCell ⟨g12, 0, none⟩ (.int .i64 y.f0.f0)) b #[.int .i64 se.nx, .int .i64 se.ny, .int .i64 se.cell, .int .i64 se.slot, .int .i64 se.slots, .int .i64 se.layers, .int .i64 se.most, .slice A7 se.shores.length c7, .slice A8 se.currents.length c8, .int .i64 v.speed, .int .i64 v.dive, .int .i64 v.use.f0, .int .i64 v.use.f1, .int .i64 v.drift.f0, .int .i64 v.drift.f1, .int .i64 v.reserve] 110 := blk_far (p := ⟨g12, 0, none⟩) mT hn_T_12 _
  replace m6 : Blk (Wg.setCell ⟨g12, 0, none⟩ (.int .i64 y.f0.f0)) g6 #[.int .i64 x.f0.f0, .int .i64 x.f0.f1, .int .i64 x.f1.f0, .int .i64 x.f1.f1] 31 := blk_far (p := ⟨g12, 0, none⟩) m6 hn_6_12 _
  replace m7 : Blk (Wg.setCell ⟨g12, 0, none⟩ (.int .i64 y.f0.f0)) g7 #[.int .i64 rb.f0.f0, .int .i64 rb.f0.f1, .int .i64 rb.f1.f0, .int .i64 rb.f1.f1] 31 := blk_far (p := ⟨g12, 0, none⟩) m7 hn_7_12 _
  replace m9 : Blk (Wg.setCell ⟨g12, 0, none⟩ (.int .i64 y.f0.f0)) g9 #[.int .i64 hd, .int .i64 layer] 33 := blk_far (p := ⟨g12, 0, none⟩) m9 hn_9_12 _
  replace m10 : Blk (Wg.setCell ⟨g12, 0, none⟩ (.int .i64 y.f0.f0)) g10 #[.int .i64 0, .int .i64 0, .int .i64 0, .int .i64 0] 31 := blk_far (p := ⟨g12, 0, none⟩) m10 hn_10_12 _
  replace m11 : Blk (Wg.setCell ⟨g12, 0, none⟩ (.int .i64 y.f0.f0)) g11 #[.int .i64 d0, .int .i64 d1] 161 := blk_far (p := ⟨g12, 0, none⟩) m11 hn_11_12 _
  replace m12 : Blk (Wg.setCell ⟨g12, 0, none⟩ (.int .i64 y.f0.f0)) g12 #[.int .i64 y.f0.f0, .int .i64 0, .int .i64 0, .int .i64 0] 31 := blk_put m12 0 _ rfl
  replace mB : Below w.heap.size w (Wg.setCell ⟨g12, 0, none⟩ (.int .i64 y.f0.f0)) := mB.setCell (p := ⟨g12, 0, none⟩) hG12 _
  replace mT : Blk ((Wg.setCell ⟨g12, 0, none⟩ (.int .i64 y.f0.f0)).setCell ⟨g12, 1, none⟩ (.int .i64 y.f0.f1)) b #[.int .i64 se.nx, .int .i64 se.ny, .int .i64 se.cell, .int .i64 se.slot, .int .i64 se.slots, .int .i64 se.layers, .int .i64 se.most, .slice A7 se.shores.length c7, .slice A8 se.currents.length c8, .int .i64 v.speed, .int .i64 v.dive, .int .i64 v.use.f0, .int .i64 v.use.f1, .int .i64 v.drift.f0, .int .i64 v.drift.f1, .int .i64 v.reserve] 110 := blk_far (p := ⟨g12, 1, none⟩) mT hn_T_12 _
  replace m6 : Blk ((Wg.setCell ⟨g12, 0, none⟩ (.int .i64 y.f0.f0)).setCell ⟨g12, 1, none⟩ (.int .i64 y.f0.f1)) g6 #[.int .i64 x.f0.f0, .int .i64 x.f0.f1, .int .i64 x.f1.f0, .int .i64 x.f1.f1] 31 := blk_far (p := ⟨g12, 1, none⟩) m6 hn_6_12 _
  replace m7 : Blk ((Wg.setCell ⟨g12, 0, none⟩ (.int .i64 y.f0.f0)).setCell ⟨g12, 1, none⟩ (.int .i64 y.f0.f1)) g7 #[.int .i64 rb.f0.f0, .int .i64 rb.f0.f1, .int .i64 rb.f1.f0, .int .i64 rb.f1.f1] 31 := blk_far (p := ⟨g12, 1, none⟩) m7 hn_7_12 _
  replace m9 : Blk ((Wg.setCell ⟨g12, 0, none⟩ (.int .i64 y.f0.f0)).setCell ⟨g12, 1, none⟩ (.int .i64 y.f0.f1)) g9 #[.int .i64 hd, .int .i64 layer] 33 := blk_far (p := ⟨g12, 1, none⟩) m9 hn_9_12 _
  replace m10 : Blk ((Wg.setCell ⟨g12, 0, none⟩ (.int .i64 y.f0.f0)).setCell ⟨g12, 1, none⟩ (.int .i64 y.f0.f1)) g10 #[.int .i64 0, .int .i64 0, .int .i64 0, .int .i64 0] 31 := blk_far (p := ⟨g12, 1, none⟩) m10 hn_10_12 _
  replace m11 : Blk ((Wg.setCell ⟨g12, 0, none⟩ (.int .i64 y.f0.f0)).setCell ⟨g12, 1, none⟩ (.int .i64 y.f0.f1)) g11 #[.int .i64 d0, .int .i64 d1] 161 := blk_far (p := ⟨g12, 1, none⟩) m11 hn_11_12 _
  replace m12 : Blk ((Wg.setCell ⟨g12, 0, none⟩ (.int .i64 y.f0.f0)).setCell ⟨g12, 1, none⟩ (.int .i64 y.f0.f1)) g12 #[.int .i64 y.f0.f0, .int .i64 y.f0.f1, .int .i64 0, .int .i64 0] 31 := blk_put m12 1 _ rfl
  replace mB : Below w.heap.size w ((Wg.setCell ⟨g12, 0, none⟩ (.int .i64 y.f0.f0)).setCell ⟨g12, 1, none⟩ (.int .i64 y.f0.f1)) := mB.setCell (p := ⟨g12, 1, none⟩) hG12 _
  replace mT : Blk (((Wg.setCell ⟨g12, 0, none⟩ (.int .i64 y.f0.f0)).setCell ⟨g12, 1, none⟩ (.int .i64 y.f0.f1)).setCell ⟨g12, 2, none⟩ (.int .i64 y.f1.f0)) b #[.int .i64 se.nx, .int .i64 se.ny, .int .i64 se.cell, .int .i64 se.slot, .int .i64 se.slots, .int .i64 se.layers, .int .i64 se.most, .slice A7 se.shores.length c7, .slice A8 se.currents.length c8, .int .i64 v.speed, .int .i64 v.dive, .int .i64 v.use.f0, .int .i64 v.use.f1, .int .i64 v.drift.f0, .int .i64 v.drift.f1, .int .i64 v.reserve] 110 := blk_far (p := ⟨g12, 2, none⟩) mT hn_T_12 _
  replace m6 : Blk (((Wg.setCell ⟨g12, 0, none⟩ (.int .i64 y.f0.f0)).setCell ⟨g12, 1, none⟩ (.int .i64 y.f0.f1)).setCell ⟨g12, 2, none⟩ (.int .i64 y.f1.f0)) g6 #[.int .i64 x.f0.f0, .int .i64 x.f0.f1, .int .i64 x.f1.f0, .int .i64 x.f1.f1] 31 := blk_far (p := ⟨g12, 2, none⟩) m6 hn_6_12 _
  replace m7 : Blk (((Wg.setCell ⟨g12, 0, none⟩ (.int .i64 y.f0.f0)).setCell ⟨g12, 1, none⟩ (.int .i64 y.f0.f1)).setCell ⟨g12, 2, none⟩ (.int .i64 y.f1.f0)) g7 #[.int .i64 rb.f0.f0, .int .i64 rb.f0.f1, .int .i64 rb.f1.f0, .int .i64 rb.f1.f1] 31 := blk_far (p := ⟨g12, 2, none⟩) m7 hn_7_12 _
  replace m9 : Blk (((Wg.setCell ⟨g12, 0, none⟩ (.int .i64 y.f0.f0)).setCell ⟨g12, 1, none⟩ (.int .i64 y.f0.f1)).setCell ⟨g12, 2, none⟩ (.int .i64 y.f1.f0)) g9 #[.int .i64 hd, .int .i64 layer] 33 := blk_far (p := ⟨g12, 2, none⟩) m9 hn_9_12 _
  replace m10 : Blk (((Wg.setCell ⟨g12, 0, none⟩ (.int .i64 y.f0.f0)).setCell ⟨g12, 1, none⟩ (.int .i64 y.f0.f1)).setCell ⟨g12, 2, none⟩ (.int .i64 y.f1.f0)) g10 #[.int .i64 0, .int .i64 0, .int .i64 0, .int .i64 0] 31 := blk_far (p := ⟨g12, 2, none⟩) m10 hn_10_12 _
  replace m11 : Blk (((Wg.setCell ⟨g12, 0, none⟩ (.int .i64 y.f0.f0)).setCell ⟨g12, 1, none⟩ (.int .i64 y.f0.f1)).setCell ⟨g12, 2, none⟩ (.int .i64 y.f1.f0)) g11 #[.int .i64 d0, .int .i64 d1] 161 := blk_far (p := ⟨g12, 2, none⟩) m11 hn_11_12 _
  replace m12 : Blk (((Wg.setCell ⟨g12, 0, none⟩ (.int .i64 y.f0.f0)).setCell ⟨g12, 1, none⟩ (.int .i64 y.f0.f1)).setCell ⟨g12, 2, none⟩ (.int .i64 y.f1.f0)) g12 #[.int .i64 y.f0.f0, .int .i64 y.f0.f1, .int .i64 y.f1.f0, .int .i64 0] 31 := blk_put m12 2 _ rfl
  replace mB : Below w.heap.size w (((Wg.setCell ⟨g12, 0, none⟩ (.int .i64 y.f0.f0)).setCell ⟨g12, 1, none⟩ (.int .i64 y.f0.f1)).setCell ⟨g12, 2, none⟩ (.int .i64 y.f1.f0)) := mB.setCell (p := ⟨g12, 2, none⟩) hG12 _
  replace mT : Blk ((((Wg.setCell ⟨g12, 0, none⟩ (.int .i64 y.f0.f0)).setCell ⟨g12, 1, none⟩ (.int .i64 y.f0.f1)).setCell ⟨g12, 2, none⟩ (.int .i64 y.f1.f0)).setCell ⟨g12, 3, none⟩ (.int .i64 y.f1.f1)) b #[.int .i64 se.nx, .int .i64 se.ny, .int .i64 se.cell, .int .i64 se.slot, .int .i64 se.slots, .int .i64 se.layers, .int .i64 se.most, .slice A7 se.shores.length c7, .slice A8 se.currents.length c8, .int .i64 v.speed, .int .i64 v.dive, .int .i64 v.use.f0, .int .i64 v.use.f1, .int .i64 v.drift.f0, .int .i64 v.drift.f1, .int .i64 v.reserve] 110 := blk_far (p := ⟨g12, 3, none⟩) mT hn_T_12 _
  replace m6 : Blk ((((Wg.setCell ⟨g12, 0, none⟩ (.int .i64 y.f0.f0)).setCell ⟨g12, 1, none⟩ (.int .i64 y.f0.f1)).setCell ⟨g12, 2, none⟩ (.int .i64 y.f1.f0)).setCell ⟨g12, 3, none⟩ (.int .i64 y.f1.f1)) g6 #[.int .i64 x.f0.f0, .int .i64 x.f0.f1, .int .i64 x.f1.f0, .int .i64 x.f1.f1] 31 := blk_far (p := ⟨g12, 3, none⟩) m6 hn_6_12 _
  replace m7 : Blk ((((Wg.setCell ⟨g12, 0, none⟩ (.int .i64 y.f0.f0)).setCell ⟨g12, 1, none⟩ (.int .i64 y.f0.f1)).setCell ⟨g12, 2, none⟩ (.int .i64 y.f1.f0)).setCell ⟨g12, 3, none⟩ (.int .i64 y.f1.f1)) g7 #[.int .i64 rb.f0.f0, .int .i64 rb.f0.f1, .int .i64 rb.f1.f0, .int .i64 rb.f1.f1] 31 := blk_far (p := ⟨g12, 3, none⟩) m7 hn_7_12 _
  replace m9 : Blk ((((Wg.setCell ⟨g12, 0, none⟩ (.int .i64 y.f0.f0)).setCell ⟨g12, 1, none⟩ (.int .i64 y.f0.f1)).setCell ⟨g12, 2, none⟩ (.int .i64 y.f1.f0)).setCell ⟨g12, 3, none⟩ (.int .i64 y.f1.f1)) g9 #[.int .i64 hd, .int .i64 layer] 33 := blk_far (p := ⟨g12, 3, none⟩) m9 hn_9_12 _
  replace m10 : Blk ((((Wg.setCell ⟨g12, 0, none⟩ (.int .i64 y.f0.f0)).setCell ⟨g12, 1, none⟩ (.int .i64 y.f0.f1)).setCell ⟨g12, 2, none⟩ (.int .i64 y.f1.f0)).setCell ⟨g12, 3, none⟩ (.int .i64 y.f1.f1)) g10 #[.int .i64 0, .int .i64 0, .int .i64 0, .int .i64 0] 31 := blk_far (p := ⟨g12, 3, none⟩) m10 hn_10_12 _
  replace m11 : Blk ((((Wg.setCell ⟨g12, 0, none⟩ (.int .i64 y.f0.f0)).setCell ⟨g12, 1, none⟩ (.int .i64 y.f0.f1)).setCell ⟨g12, 2, none⟩ (.int .i64 y.f1.f0)).setCell ⟨g12, 3, none⟩ (.int .i64 y.f1.f1)) g11 #[.int .i64 d0, .int .i64 d1] 161 := blk_far (p := ⟨g12, 3, none⟩) m11 hn_11_12 _
  replace m12 : Blk ((((Wg.setCell ⟨g12, 0, none⟩ (.int .i64 y.f0.f0)).setCell ⟨g12, 1, none⟩ (.int .i64 y.f0.f1)).setCell ⟨g12, 2, none⟩ (.int .i64 y.f1.f0)).setCell ⟨g12, 3, none⟩ (.int .i64 y.f1.f1)) g12 #[.int .i64 y.f0.f0, .int .i64 y.f0.f1, .int .i64 y.f1.f0, .int .i64 y.f1.f1] 31 := blk_put m12 3 _ rfl
  replace mB : Below w.heap.size w ((((Wg.setCell ⟨g12, 0, none⟩ (.int .i64 y.f0.f0)).setCell ⟨g12, 1, none⟩ (.int .i64 y.f0.f1)).setCell ⟨g12, 2, none⟩ (.int .i64 y.f1.f0)).setCell ⟨g12, 3, none⟩ (.int .i64 y.f1.f1)) := mB.setCell (p := ⟨g12, 3, none⟩) hG12 _
  refine hK.out _ _ ?_
  clear hK K
  refine done_ (by kernel_rfl) ?_
  try clear hHeld
  generalize hW_ : ((((Wg.setCell ⟨g12, 0, none⟩ (.int .i64 y.f0.f0)).setCell ⟨g12, 1, none⟩ (.int .i64 y.f0.f1)).setCell ⟨g12, 2, none⟩ (.int .i64 y.f1.f0)).setCell ⟨g12, 3, none⟩ (.int .i64 y.f1.f1)) = W3 at mT m6 m7 m9 m10 m11 m12 mB ⊢
  clear hW_
  have hs_W3 : w.heap.size ≤ W3.heap.size := mB.size
  go_wp2_with fail
  replace mT := blk_drew mT
  replace m6 := blk_drew m6
  replace m7 := blk_drew m7
  replace m9 := blk_drew m9
  replace m10 := blk_drew m10
  replace m11 := blk_drew m11
  replace m12 := blk_drew m12
  replace mB := below_drew1 mB
  refine start_ (n := 30) (S := fun w' => w'.cell? ⟨g6, 0, none⟩ = some (.int .i64 x.f0.f0) ∧ w'.cell? ⟨g6, 1, none⟩ = some (.int .i64 x.f0.f1) ∧ w'.cell? ⟨g6, 2, none⟩ = some (.int .i64 x.f1.f0) ∧ w'.cell? ⟨g6, 3, none⟩ = some (.int .i64 x.f1.f1) ∧ w'.cell? ⟨g11, 0, none⟩ = some (.int .i64 d0) ∧ w'.cell? ⟨g11, 1, none⟩ = some (.int .i64 d1) ∧ w'.cell? ⟨g12, 0, none⟩ = some (.int .i64 y.f0.f0) ∧ w'.cell? ⟨g12, 1, none⟩ = some (.int .i64 y.f0.f1) ∧ w'.cell? ⟨g12, 2, none⟩ = some (.int .i64 y.f1.f0) ∧ w'.cell? ⟨g12, 3, none⟩ = some (.int .i64 y.f1.f1) ∧ w'.cell? ⟨b, 9, none⟩ = some (.int .i64 v.speed)) (ds := [29]) #[false, false, false, false, false, false, false, false, false, false, false, false, false, false, false, false, false, false, false, false, false, false, false, false, false, false, false, false, false, false] (by kernel_rfl) rfl rfl ⟨((blk_cell m6 0).trans rfl), ((blk_cell m6 1).trans rfl), ((blk_cell m6 2).trans rfl), ((blk_cell m6 3).trans rfl), ((blk_cell m11 0).trans rfl), ((blk_cell m11 1).trans rfl), ((blk_cell m12 0).trans rfl), ((blk_cell m12 1).trans rfl), ((blk_cell m12 2).trans rfl), ((blk_cell m12 3).trans rfl), ((blk_cell mT 9).trans rfl)⟩ (fun hHeld => ?_)
  generalize hWd : World.drew _ = Wx at mT m6 m7 m9 m10 m11 m12 mB hHeld ⊢
  clear hWd
  refine pure_ (i := 0) (N := some 30) (v := ?_) (a' := ?_) #[true, false, false, false, false, false, false, false, false, false, false, false, false, false, false, false, false, false, false, false, false, false, false, false, false, false, false, false, false, false] rfl rfl (by kernel_rfl) (fun _ _ _ h => h) (Or.inl ⟨by rfl, ?_⟩) ?_ ?_
  rotate_left
  · intro w'
    go_simp
    with_reducible rfl
  rotate_left
  · simp only [Act.put, List.setIfInBounds_toArray, List.set_cons_zero, List.set_cons_succ, i64_w, i32_w]
    rfl
  refine pure_ (i := 1) (N := some 31) (v := ?_) (a' := ?_) #[true, true, false, false, false, false, false, false, false, false, false, false, false, false, false, false, false, false, false, false, false, false, false, false, false, false, false, false, false, false] rfl rfl (by kernel_rfl) (fun _ _ _ h => h) (Or.inl ⟨by rfl, ?_⟩) ?_ ?_
  rotate_left
  · intro w'
    go_simp
    with_reducible rfl
  rotate_left
  · simp only [Act.put, List.setIfInBounds_toArray, List.set_cons_zero, List.set_cons_succ, i64_w, i32_w]
    rfl
  refine pure_ (i := 3) (N := some 33) (v := ?_) (a' := ?_) #[true, true, false, true, false, false, false, false, false, false, false, false, false, false, false, false, false, false, false, false, false, false, false, false, false, false, false, false, false, false] rfl rfl (by kernel_rfl) (fun _ _ _ h => h) (Or.inl ⟨by rfl, ?_⟩) ?_ ?_
  rotate_left
  · intro w'
    go_simp
    with_reducible rfl
  rotate_left
  · simp only [Act.put, List.setIfInBounds_toArray, List.set_cons_zero, List.set_cons_succ, i64_w, i32_w]
    rfl
  refine pure_ (i := 5) (N := some 35) (v := ?_) (a' := ?_) #[true, true, false, true, false, true, false, false, false, false, false, false, false, false, false, false, false, false, false, false, false, false, false, false, false, false, false, false, false, false] rfl rfl (by kernel_rfl) (fun _ _ _ h => h) (Or.inl ⟨by rfl, ?_⟩) ?_ ?_
  rotate_left
  · intro w'
    go_simp
    with_reducible rfl
  rotate_left
  · simp only [Act.put, List.setIfInBounds_toArray, List.set_cons_zero, List.set_cons_succ, i64_w, i32_w]
    rfl
  refine pure_ (i := 6) (N := some 36) (v := ?_) (a' := ?_) #[true, true, false, true, false, true, true, false, false, false, false, false, false, false, false, false, false, false, false, false, false, false, false, false, false, false, false, false, false, false] rfl rfl (by kernel_rfl) (fun _ _ _ h => h) (Or.inl ⟨by rfl, ?_⟩) ?_ ?_
  rotate_left
  · intro w'
    go_simp
    with_reducible rfl
  rotate_left
  · simp only [Act.put, List.setIfInBounds_toArray, List.set_cons_zero, List.set_cons_succ, i64_w, i32_w]
    rfl
  refine pure_ (i := 7) (N := some 37) (v := ?_) (a' := ?_) #[true, true, false, true, false, true, true, true, false, false, false, false, false, false, false, false, false, false, false, false, false, false, false, false, false, false, false, false, false, false] rfl rfl (by kernel_rfl) (fun _ _ _ h => h) (Or.inl ⟨by rfl, ?_⟩) ?_ ?_
  rotate_left
  · intro w'
    go_simp
    with_reducible rfl
  rotate_left
  · simp only [Act.put, List.setIfInBounds_toArray, List.set_cons_zero, List.set_cons_succ, i64_w, i32_w]
    rfl
  refine pure_ (i := 8) (N := some 38) (v := ?_) (a' := ?_) #[true, true, false, true, false, true, true, true, true, false, false, false, false, false, false, false, false, false, false, false, false, false, false, false, false, false, false, false, false, false] rfl rfl (by kernel_rfl) (fun _ _ _ h => h) (Or.inl ⟨by rfl, ?_⟩) ?_ ?_
  rotate_left
  · intro w'
    go_simp
    with_reducible rfl
  rotate_left
  · simp only [Act.put, List.setIfInBounds_toArray, List.set_cons_zero, List.set_cons_succ, i64_w, i32_w]
    rfl
  refine pure_ (i := 11) (N := some 41) (v := ?_) (a' := ?_) #[true, true, false, true, false, true, true, true, true, false, false, true, false, false, false, false, false, false, false, false, false, false, false, false, false, false, false, false, false, false] rfl rfl (by kernel_rfl) (fun _ _ _ h => h) (Or.inl ⟨by rfl, ?_⟩) ?_ ?_
  rotate_left
  · intro w'
    go_simp
    with_reducible rfl
  rotate_left
  · simp only [Act.put, List.setIfInBounds_toArray, List.set_cons_zero, List.set_cons_succ, i64_w, i32_w]
    rfl
  refine pure_ (i := 14) (N := some 44) (v := ?_) (a' := ?_) #[true, true, false, true, false, true, true, true, true, false, false, true, false, false, true, false, false, false, false, false, false, false, false, false, false, false, false, false, false, false] rfl rfl (by kernel_rfl) (fun _ _ _ h => h) (Or.inl ⟨by rfl, ?_⟩) ?_ ?_
  rotate_left
  · intro w'
    go_simp
    with_reducible rfl
  rotate_left
  · simp only [Act.put, List.setIfInBounds_toArray, List.set_cons_zero, List.set_cons_succ, i64_w, i32_w]
    rfl
  refine pure_ (i := 15) (N := some 45) (v := ?_) (a' := ?_) #[true, true, false, true, false, true, true, true, true, false, false, true, false, false, true, true, false, false, false, false, false, false, false, false, false, false, false, false, false, false] rfl rfl (by kernel_rfl) (fun _ _ _ h => h) (Or.inl ⟨by rfl, ?_⟩) ?_ ?_
  rotate_left
  · intro w'
    go_simp
    with_reducible rfl
  rotate_left
  · simp only [Act.put, List.setIfInBounds_toArray, List.set_cons_zero, List.set_cons_succ, i64_w, i32_w]
    rfl
  refine pure_ (i := 17) (N := some 47) (v := ?_) (a' := ?_) #[true, true, false, true, false, true, true, true, true, false, false, true, false, false, true, true, false, true, false, false, false, false, false, false, false, false, false, false, false, false] rfl rfl (by kernel_rfl) (fun _ _ _ h => h) (Or.inl ⟨by rfl, ?_⟩) ?_ ?_
  rotate_left
  · intro w'
    go_simp
    with_reducible rfl
  rotate_left
  · simp only [Act.put, List.setIfInBounds_toArray, List.set_cons_zero, List.set_cons_succ, i64_w, i32_w]
    rfl
  refine pure_ (i := 19) (N := some 49) (v := ?_) (a' := ?_) #[true, true, false, true, false, true, true, true, true, false, false, true, false, false, true, true, false, true, false, true, false, false, false, false, false, false, false, false, false, false] rfl rfl (by kernel_rfl) (fun _ _ _ h => h) (Or.inl ⟨by rfl, ?_⟩) ?_ ?_
  rotate_left
  · intro w'
    go_simp
    with_reducible rfl
  rotate_left
  · simp only [Act.put, List.setIfInBounds_toArray, List.set_cons_zero, List.set_cons_succ, i64_w, i32_w]
    rfl
  refine pure_ (i := 20) (N := some 50) (v := ?_) (a' := ?_) #[true, true, false, true, false, true, true, true, true, false, false, true, false, false, true, true, false, true, false, true, true, false, false, false, false, false, false, false, false, false] rfl rfl (by kernel_rfl) (fun _ _ _ h => h) (Or.inl ⟨by rfl, ?_⟩) ?_ ?_
  rotate_left
  · intro w'
    go_simp
    with_reducible rfl
  rotate_left
  · simp only [Act.put, List.setIfInBounds_toArray, List.set_cons_zero, List.set_cons_succ, i64_w, i32_w]
    rfl
  refine pure_ (i := 21) (N := some 51) (v := ?_) (a' := ?_) #[true, true, false, true, false, true, true, true, true, false, false, true, false, false, true, true, false, true, false, true, true, true, false, false, false, false, false, false, false, false] rfl rfl (by kernel_rfl) (fun _ _ _ h => h) (Or.inl ⟨by rfl, ?_⟩) ?_ ?_
  rotate_left
  · intro w'
    go_simp
    with_reducible rfl
  rotate_left
  · simp only [Act.put, List.setIfInBounds_toArray, List.set_cons_zero, List.set_cons_succ, i64_w, i32_w]
    rfl
  refine pure_ (i := 22) (N := some 52) (v := ?_) (a' := ?_) #[true, true, false, true, false, true, true, true, true, false, false, true, false, false, true, true, false, true, false, true, true, true, true, false, false, false, false, false, false, false] rfl rfl (by kernel_rfl) (fun _ _ _ h => h) (Or.inl ⟨by rfl, ?_⟩) ?_ ?_
  rotate_left
  · intro w'
    go_simp
    with_reducible rfl
  rotate_left
  · simp only [Act.put, List.setIfInBounds_toArray, List.set_cons_zero, List.set_cons_succ, i64_w, i32_w]
    rfl
  refine pure_ (i := 25) (N := some 55) (v := ?_) (a' := ?_) #[true, true, false, true, false, true, true, true, true, false, false, true, false, false, true, true, false, true, false, true, true, true, true, false, false, true, false, false, false, false] rfl rfl (by kernel_rfl) (fun _ _ _ h => h) (Or.inl ⟨by rfl, ?_⟩) ?_ ?_
  rotate_left
  · intro w'
    go_simp
    with_reducible rfl
  rotate_left
  · simp only [Act.put, List.setIfInBounds_toArray, List.set_cons_zero, List.set_cons_succ, i64_w, i32_w]
    rfl
  refine take_ (i := 2) (N := some 32) (v := ?_) (a' := ?_) #[true, true, true, true, false, true, true, true, true, false, false, true, false, false, true, true, false, true, false, true, true, true, true, false, false, true, false, false, false, false] rfl rfl (by kernel_rfl) (fun _ _ _ h => h) (Or.inl ⟨by rfl, ?_⟩) hHeld ?_ ?_
  rotate_left
  · rintro w' ⟨s0, s1, s2, s3, s4, s5, s6, s7, s8, s9, s10⟩
    go_simp
    with_reducible rfl
  rotate_left
  · simp only [Act.put, List.setIfInBounds_toArray, List.set_cons_zero, List.set_cons_succ, i64_w, i32_w]
    rfl
  refine take_ (i := 4) (N := some 34) (v := ?_) (a' := ?_) #[true, true, true, true, true, true, true, true, true, false, false, true, false, false, true, true, false, true, false, true, true, true, true, false, false, true, false, false, false, false] rfl rfl (by kernel_rfl) (fun _ _ _ h => h) (Or.inl ⟨by rfl, ?_⟩) hHeld ?_ ?_
  rotate_left
  · rintro w' ⟨s0, s1, s2, s3, s4, s5, s6, s7, s8, s9, s10⟩
    go_simp
    with_reducible rfl
  rotate_left
  · simp only [Act.put, List.setIfInBounds_toArray, List.set_cons_zero, List.set_cons_succ, i64_w, i32_w]
    rfl
  refine take_ (i := 9) (N := some 39) (v := ?_) (a' := ?_) #[true, true, true, true, true, true, true, true, true, true, false, true, false, false, true, true, false, true, false, true, true, true, true, false, false, true, false, false, false, false] rfl rfl (by kernel_rfl) (fun _ _ _ h => h) (Or.inl ⟨by rfl, ?_⟩) hHeld ?_ ?_
  rotate_left
  · rintro w' ⟨s0, s1, s2, s3, s4, s5, s6, s7, s8, s9, s10⟩
    go_simp
    with_reducible rfl
  rotate_left
  · simp only [Act.put, List.setIfInBounds_toArray, List.set_cons_zero, List.set_cons_succ, i64_w, i32_w]
    rfl
  refine pure_ (i := 10) (N := some 40) (v := ?_) (a' := ?_) #[true, true, true, true, true, true, true, true, true, true, true, true, false, false, true, true, false, true, false, true, true, true, true, false, false, true, false, false, false, false] rfl rfl (by kernel_rfl) (fun _ _ _ h => h) (Or.inl ⟨by rfl, ?_⟩) ?_ ?_
  rotate_left
  · intro w'
    go_simp
    with_reducible rfl
  rotate_left
  · simp only [Act.put, List.setIfInBounds_toArray, List.set_cons_zero, List.set_cons_succ, i64_w, i32_w]
    rfl
  refine take_ (i := 12) (N := some 42) (v := ?_) (a' := ?_) #[true, true, true, true, true, true, true, true, true, true, true, true, true, false, true, true, false, true, false, true, true, true, true, false, false, true, false, false, false, false] rfl rfl (by kernel_rfl) (fun _ _ _ h => h) (Or.inl ⟨by rfl, ?_⟩) hHeld ?_ ?_
  rotate_left
  · rintro w' ⟨s0, s1, s2, s3, s4, s5, s6, s7, s8, s9, s10⟩
    go_simp
    with_reducible rfl
  rotate_left
  · simp only [Act.put, List.setIfInBounds_toArray, List.set_cons_zero, List.set_cons_succ, i64_w, i32_w]
    rfl
  refine take_ (i := 16) (N := some 46) (v := ?_) (a' := ?_) #[true, true, true, true, true, true, true, true, true, true, true, true, true, false, true, true, true, true, false, true, true, true, true, false, false, true, false, false, false, false] rfl rfl (by kernel_rfl) (fun _ _ _ h => h) (Or.inl ⟨by rfl, ?_⟩) hHeld ?_ ?_
  rotate_left
  · rintro w' ⟨s0, s1, s2, s3, s4, s5, s6, s7, s8, s9, s10⟩
    go_simp
    with_reducible rfl
  rotate_left
  · simp only [Act.put, List.setIfInBounds_toArray, List.set_cons_zero, List.set_cons_succ, i64_w, i32_w]
    rfl
  refine take_ (i := 18) (N := some 48) (v := ?_) (a' := ?_) #[true, true, true, true, true, true, true, true, true, true, true, true, true, false, true, true, true, true, true, true, true, true, true, false, false, true, false, false, false, false] rfl rfl (by kernel_rfl) (fun _ _ _ h => h) (Or.inl ⟨by rfl, ?_⟩) hHeld ?_ ?_
  rotate_left
  · rintro w' ⟨s0, s1, s2, s3, s4, s5, s6, s7, s8, s9, s10⟩
    go_simp
    with_reducible rfl
  rotate_left
  · simp only [Act.put, List.setIfInBounds_toArray, List.set_cons_zero, List.set_cons_succ, i64_w, i32_w]
    rfl
  refine take_ (i := 23) (N := some 53) (v := ?_) (a' := ?_) #[true, true, true, true, true, true, true, true, true, true, true, true, true, false, true, true, true, true, true, true, true, true, true, true, false, true, false, false, false, false] rfl rfl (by kernel_rfl) (fun _ _ _ h => h) (Or.inl ⟨by rfl, ?_⟩) hHeld ?_ ?_
  rotate_left
  · rintro w' ⟨s0, s1, s2, s3, s4, s5, s6, s7, s8, s9, s10⟩
    go_simp
    with_reducible rfl
  rotate_left
  · simp only [Act.put, List.setIfInBounds_toArray, List.set_cons_zero, List.set_cons_succ, i64_w, i32_w]
    rfl
  refine pure_ (i := 24) (N := some 54) (v := ?_) (a' := ?_) #[true, true, true, true, true, true, true, true, true, true, true, true, true, false, true, true, true, true, true, true, true, true, true, true, true, true, false, false, false, false] rfl rfl (by kernel_rfl) (fun _ _ _ h => h) (Or.inl ⟨by rfl, ?_⟩) ?_ ?_
  rotate_left
  · intro w'
    go_simp
    with_reducible rfl
  rotate_left
  · simp only [Act.put, List.setIfInBounds_toArray, List.set_cons_zero, List.set_cons_succ, i64_w, i32_w]
    rfl
  refine take_ (i := 26) (N := some 56) (v := ?_) (a' := ?_) #[true, true, true, true, true, true, true, true, true, true, true, true, true, false, true, true, true, true, true, true, true, true, true, true, true, true, true, false, false, false] rfl rfl (by kernel_rfl) (fun _ _ _ h => h) (Or.inl ⟨by rfl, ?_⟩) hHeld ?_ ?_
  rotate_left
  · rintro w' ⟨s0, s1, s2, s3, s4, s5, s6, s7, s8, s9, s10⟩
    go_simp
    with_reducible rfl
  rotate_left
  · simp only [Act.put, List.setIfInBounds_toArray, List.set_cons_zero, List.set_cons_succ, i64_w, i32_w]
    rfl
  refine one_ (i := 13) (N := some 43) #[true, true, true, true, true, true, true, true, true, true, true, true, true, true, true, true, true, true, true, true, true, true, true, true, true, true, true, false, false, false] rfl rfl (by kernel_rfl) (by decide) (fun K hK => ?_)
  have hcon_ := kS0 _ w2 Wx (hT.below mB)
  refine goes_ Try.func131 (by kernel_rfl) rfl #[.pointer (some ⟨b, 0, none⟩), .agg #[.int .i64 x.f0.f0, .int .i64 x.f0.f1], .int .i64 (wrap64 (d0 * v.speed)), .agg #[.int .i64 y.f0.f0, .int .i64 y.f0.f1]] (by rfl) rfl rfl (by simp only [List.map_toArray, List.map_cons, List.map_nil]; rfl) ?_
  with_reducible refine (hcon_).mono ?_
  rintro e w13 ⟨rfl, hb⟩
  refine ⟨_, rfl, ?_⟩
  clear hcon_
  replace mT := blk_below mT hb
  replace m6 := blk_below m6 hb
  replace m7 := blk_below m7 hb
  replace m9 := blk_below m9 hb
  replace m10 := blk_below m10 hb
  replace m11 := blk_below m11 hb
  replace m12 := blk_below m12 hb
  replace mB := below_step mB hb
  clear hb
  refine hK.out _ _ ⟨((blk_cell m6 0).trans rfl), ((blk_cell m6 1).trans rfl), ((blk_cell m6 2).trans rfl), ((blk_cell m6 3).trans rfl), ((blk_cell m11 0).trans rfl), ((blk_cell m11 1).trans rfl), ((blk_cell m12 0).trans rfl), ((blk_cell m12 1).trans rfl), ((blk_cell m12 2).trans rfl), ((blk_cell m12 3).trans rfl), ((blk_cell mT 9).trans rfl)⟩ (fun hHeld => ?_)
  clear hK K
  refine norm_ (a' := ?_) ?_ ?_
  rotate_left
  · show Act.put _ (some 43) _ = _
    simp only [Act.put, List.setIfInBounds_toArray, List.set_cons_zero, List.set_cons_succ, i64_w, i32_w]
    rfl
  refine one_ (i := 27) (N := some 57) #[true, true, true, true, true, true, true, true, true, true, true, true, true, true, true, true, true, true, true, true, true, true, true, true, true, true, true, true, false, false] rfl rfl (by kernel_rfl) (by decide) (fun K hK => ?_)
  have hcon_ := kS1 _ w3 w13 (hT.below mB)
  refine goes_ Try.func131 (by kernel_rfl) rfl #[.pointer (some ⟨b, 0, none⟩), .agg #[.int .i64 x.f1.f0, .int .i64 x.f1.f1], .int .i64 (wrap64 (d1 * v.speed)), .agg #[.int .i64 y.f1.f0, .int .i64 y.f1.f1]] (by rfl) rfl rfl (by simp only [List.map_toArray, List.map_cons, List.map_nil]; rfl) ?_
  with_reducible refine (hcon_).mono ?_
  rintro e w27 ⟨rfl, hb⟩
  refine ⟨_, rfl, ?_⟩
  clear hcon_
  replace mT := blk_below mT hb
  replace m6 := blk_below m6 hb
  replace m7 := blk_below m7 hb
  replace m9 := blk_below m9 hb
  replace m10 := blk_below m10 hb
  replace m11 := blk_below m11 hb
  replace m12 := blk_below m12 hb
  replace mB := below_step mB hb
  clear hb
  refine hK.out _ _ ⟨((blk_cell m6 0).trans rfl), ((blk_cell m6 1).trans rfl), ((blk_cell m6 2).trans rfl), ((blk_cell m6 3).trans rfl), ((blk_cell m11 0).trans rfl), ((blk_cell m11 1).trans rfl), ((blk_cell m12 0).trans rfl), ((blk_cell m12 1).trans rfl), ((blk_cell m12 2).trans rfl), ((blk_cell m12 3).trans rfl), ((blk_cell mT 9).trans rfl)⟩ (fun hHeld => ?_)
  clear hK K
  refine norm_ (a' := ?_) ?_ ?_
  rotate_left
  · show Act.put _ (some 57) _ = _
    simp only [Act.put, List.setIfInBounds_toArray, List.set_cons_zero, List.set_cons_succ, i64_w, i32_w]
    rfl
  refine pure_ (i := 28) (N := some 58) (v := ?_) (a' := ?_) #[true, true, true, true, true, true, true, true, true, true, true, true, true, true, true, true, true, true, true, true, true, true, true, true, true, true, true, true, true, false] rfl rfl (by kernel_rfl) (fun _ _ _ h => h) (Or.inl ⟨by rfl, ?_⟩) ?_ ?_
  rotate_left
  · intro w'
    go_simp
    with_reducible rfl
  rotate_left
  · simp only [Act.put, List.setIfInBounds_toArray, List.set_cons_zero, List.set_cons_succ, i64_w, i32_w]
    rfl
  refine last_ (i := 29) (N := none) #[true, true, true, true, true, true, true, true, true, true, true, true, true, true, true, true, true, true, true, true, true, true, true, true, true, true, true, true, true, true] rfl rfl (by kernel_rfl) (by decide) (fun K hK => ?_)
  have hf0_ := blk_frozen m10 0
  have hf1_ := blk_frozen m10 1
  have hf2_ := blk_frozen m10 2
  have hf3_ := blk_frozen m10 3
  have hc0_ := (blk_cell m10 0).trans rfl
  have hc1_ := (blk_cell m10 1).trans rfl
  have hc2_ := (blk_cell m10 2).trans rfl
  have hc3_ := (blk_cell m10 3).trans rfl
  refine skip_ (w1 := ?_) (by rfl) rfl ?_ ?_
  rotate_left
  · go_simp
    rfl
  refine hK.out _ _ ?_
  clear hK K
  refine done_ (by kernel_rfl) ?_
  go_wp2
  exact bodyPost_ret (results_cell_row rfl _ _ g10 31 #[.int .i64 (shiftI v.dive x.f0 (d0 * v.speed) y.f0).f0, .int .i64 (shiftI v.dive x.f0 (d0 * v.speed) y.f0).f1, .int .i64 (shiftI v.dive x.f1 (d1 * v.speed) y.f1).f0, .int .i64 (shiftI v.dive x.f1 (d1 * v.speed) y.f1).f1] (0, 0) _ rfl (blk_put (blk_put (blk_put (blk_put m10 0 (.int .i64 (shiftI v.dive x.f0 (d0 * v.speed) y.f0).f0) rfl) 1 (.int .i64 (shiftI v.dive x.f0 (d0 * v.speed) y.f0).f1) rfl) 2 (.int .i64 (shiftI v.dive x.f1 (d1 * v.speed) y.f1).f0) rfl) 3 (.int .i64 (shiftI v.dive x.f1 (d1 * v.speed) y.f1).f1) rfl) Try.underlying31 rfl (by kernel_rfl)) rfl ⟨by rw [HR.out], (Below.setCell (p := ⟨g10, 3, none⟩) (Below.setCell (p := ⟨g10, 2, none⟩) (Below.setCell (p := ⟨g10, 1, none⟩) (Below.setCell (p := ⟨g10, 0, none⟩) mB hG10 _) hG10 _) hG10 _) hG10 _)⟩
end Go.Proofs.Ytmhaiihjfgfaoaa.Gl
end
section
/- A dive. -/
namespace Go.Proofs.Ytmhaiihjfgfaoaa.Gl
open Go.RowKit Go.Shelf Go.Proofs.YtmhaiihjfgfaoaaW.PrintWords Go.Proofs.YtmhaiihjfgfaoaaW.PrintLast Go.Proofs.YtmhaiihjfgfaoaaW.PrintMore Go.Proofs.Ytmhaiihjfgfaoaa.Pr Go.Proofs.YtmhaiihjfgfaoaaW.Round
set_option linter.unusedVariables false
set_option linter.unusedSimpArgs false
attribute [local go_sem] max2_int min2_int max_two min_two max_four
/-- A valid sea. -/
structure SeaV (s : Sea) : Prop where
  n : SeaN s
  sh : (s.shores.length : Int) = s.nx * s.ny
  cu : (s.currents.length : Int) = s.slots * s.layers * (s.nx * s.ny)
  cb : CurB s
/-- A box whose numbers are in order and not too large. -/
def BoxOK (x : S31) : Prop := SmallB x ∧ x.f0.f0 ≤ x.f0.f1 ∧ x.f1.f0 ≤ x.f1.f1
theorem reach_ok {s : Sea} {v : Veh} {x : S31} {t : Int} (hS : SeaN s) (hV : VehN v) (hx : BoxOK x) (h : reachE s v x t = 0) : InSea s (grownI s v x) ∧ (0 ≤ t ∧ t + v.dive ≤ s.slots * s.slot) ∧ (0 ≤ x.f0.f0 ∧ x.f0.f1 ≤ 1000000) ∧ (0 ≤ x.f1.f0 ∧ x.f1.f1 ≤ 1000000) := by
  have hm := hS.most
  have hsp := hV.speed
  have hdv := hV.dive
  have p1 := mul_in (show 0 ≤ v.speed + s.most by omega) (show v.speed + s.most ≤ 10000 by omega) (show 0 ≤ v.dive by omega) hdv.2
  have p2 := mul_in (show 0 ≤ s.nx by have := hS.nx; omega) hS.nx.2 (show 0 ≤ s.cell by have := hS.cell; omega) hS.cell.2
  have p3 := mul_in (show 0 ≤ s.ny by have := hS.ny; omega) hS.ny.2 (show 0 ≤ s.cell by have := hS.cell; omega) hS.cell.2
  obtain ⟨⟨x0, x1, x2, x3⟩, x4, x5⟩ := hx
  unfold reachE at h
  have hc : containsI s (grownI s v x) = true ∧ knownI s t (t + v.dive) = true := by
    by_cases hb : (containsI s (grownI s v x) && knownI s t (t + v.dive)) = true
    · exact Bool.and_eq_true_iff.1 hb
    · rw [if_neg hb] at h
      cases h
  obtain ⟨h1, h2⟩ := hc
  unfold containsI grownI at h1
  unfold knownI at h2
  simp only [Bool.and_eq_true, decide_eq_true_eq] at h1 h2
  unfold InSea grownI
  dsimp only
  omega
def diveE (s : Sea) (v : Veh) (x : S31) (t : Int) : Int := if reachE s v x t ≠ 0 then reachE s v x t else safeE s (grownI s v x)
def diveV (s : Sea) (v : Veh) (x : S31) (t hd layer : Int) : S31 := if diveE s v x t = 0 then endsI s v x (grownI s v x) t hd layer else z31
theorem safe_two (s : Sea) (x : S31) : safeE s x = 0 ∨ safeE s x = 21 := by
  unfold safeE
  split
  · exact .inr rfl
  · exact .inl rfl
set_option maxRecDepth 100000 in
set_option maxHeartbeats 8000000 in
theorem dive_any (b : Nat) (s : Sea) (v : Veh) (x : S31) (t hd layer : Int) (w : World) (hT : TripAt w b s v) (hS : SeaV s) (hV : VehN v) (hx : BoxOK x) (ht0 : 0 ≤ t) (ht1 : t ≤ 1099511627776) (hh0 : 0 ≤ hd) (hh1 : hd ≤ 8) (hl0 : 0 ≤ layer) (hl1 : layer < s.layers) :
    Calls Try.prog 66 #[.pointer (some ⟨b, 0, none⟩), .agg #[.int .i64 x.f0.f0, .int .i64 x.f0.f1, .int .i64 x.f1.f0, .int .i64 x.f1.f1], .int .i64 t, .agg #[.int .i64 hd, .int .i64 layer]] w (RetB (.tuple #[.agg #[.int .i64 (diveV s v x t hd layer).f0.f0, .int .i64 (diveV s v x t hd layer).f0.f1, .int .i64 (diveV s v x t hd layer).f1.f0, .int .i64 (diveV s v x t hd layer).f1.f1], .int .i64 (diveE s v x t)]) w) := by
  have hu31 := Try.underlying31
  have hu27 := Try.underlying27
  have hu33 := Try.underlying33
  have kR := fun W (h : TripAt W b s v) => reach_any b s v x t W h hS.n hV hx.1 ht0 ht1
  have hok := reach_ok (t := t) hS.n hV hx
  have HE : Hid (diveE s v x t = if reachE s v x t ≠ 0 then reachE s v x t else safeE s (grownI s v x)) := Lib.hid rfl
  have HV : Hid (diveV s v x t hd layer = if diveE s v x t = 0 then endsI s v x (grownI s v x) t hd layer else z31) := Lib.hid rfl
  have HRV : Hid (reachV s v x t = if reachE s v x t = 0 then grownI s v x else z31) := Lib.hid rfl
  go_enter Try.func66, Try.ntmps66
  go_wp2_with fail
  have m5 : Blk (((w.alloc (.cells #[.int .i64 x.f0.f0, .int .i64 x.f0.f1, .int .i64 x.f1.f0, .int .i64 x.f1.f1] 31)).alloc (.cells #[.int .i64 hd, .int .i64 layer] 33)).alloc (.cells #[.int .i64 0, .int .i64 0, .int .i64 0, .int .i64 0] 31)) (w.heap.size) #[.int .i64 x.f0.f0, .int .i64 x.f0.f1, .int .i64 x.f1.f0, .int .i64 x.f1.f1] 31 := (blk_alloc (blk_alloc (by have h_ := blk_new w (.cells #[.int .i64 x.f0.f0, .int .i64 x.f0.f1, .int .i64 x.f1.f0, .int .i64 x.f1.f1] 31); first | exact h_ | (simp only [World.size_alloc] at h_; exact h_)) _) _)
  have m7 : Blk (((w.alloc (.cells #[.int .i64 x.f0.f0, .int .i64 x.f0.f1, .int .i64 x.f1.f0, .int .i64 x.f1.f1] 31)).alloc (.cells #[.int .i64 hd, .int .i64 layer] 33)).alloc (.cells #[.int .i64 0, .int .i64 0, .int .i64 0, .int .i64 0] 31)) (w.heap.size + 1) #[.int .i64 hd, .int .i64 layer] 33 := (blk_alloc (by have h_ := blk_new (w.alloc (.cells #[.int .i64 x.f0.f0, .int .i64 x.f0.f1, .int .i64 x.f1.f0, .int .i64 x.f1.f1] 31)) (.cells #[.int .i64 hd, .int .i64 layer] 33); first | exact h_ | (simp only [World.size_alloc] at h_; exact h_)) _)
  have m8 : Blk (((w.alloc (.cells #[.int .i64 x.f0.f0, .int .i64 x.f0.f1, .int .i64 x.f1.f0, .int .i64 x.f1.f1] 31)).alloc (.cells #[.int .i64 hd, .int .i64 layer] 33)).alloc (.cells #[.int .i64 0, .int .i64 0, .int .i64 0, .int .i64 0] 31)) (w.heap.size + 1 + 1) #[.int .i64 0, .int .i64 0, .int .i64 0, .int .i64 0] 31 := (by have h_ := blk_new ((w.alloc (.cells #[.int .i64 x.f0.f0, .int .i64 x.f0.f1, .int .i64 x.f1.f0, .int .i64 x.f1.f1] 31)).alloc (.cells #[.int .i64 hd, .int .i64 layer] 33)) (.cells #[.int .i64 0, .int .i64 0, .int .i64 0, .int .i64 0] 31); first | exact h_ | (simp only [World.size_alloc] at h_; exact h_))
  have mB : Below w.heap.size w (((w.alloc (.cells #[.int .i64 x.f0.f0, .int .i64 x.f0.f1, .int .i64 x.f1.f0, .int .i64 x.f1.f1] 31)).alloc (.cells #[.int .i64 hd, .int .i64 layer] 33)).alloc (.cells #[.int .i64 0, .int .i64 0, .int .i64 0, .int .i64 0] 31)) := (below_alloc (below_alloc (below_alloc (Below.refl w.heap.size w) _) _) _)
  have hsz_ : w.heap.size ≤ w.heap.size := Nat.le_refl _
  generalize hW_ : (((w.alloc (.cells #[.int .i64 x.f0.f0, .int .i64 x.f0.f1, .int .i64 x.f1.f0, .int .i64 x.f1.f1] 31)).alloc (.cells #[.int .i64 hd, .int .i64 layer] 33)).alloc (.cells #[.int .i64 0, .int .i64 0, .int .i64 0, .int .i64 0] 31)) = W1 at m5 m7 m8 mB ⊢
  clear hW_
  generalize hg5 : w.heap.size = g5 at m5 m7 m8 ⊢
  have hG5 : w.heap.size ≤ g5 := by omega
  generalize hg7 : g5 + 1 = g7 at m7 m8 ⊢
  have hn_5_7 : g5 ≠ g7 := by omega
  have hn_7_5 : g7 ≠ g5 := hn_5_7.symm
  have hG7 : w.heap.size ≤ g7 := by omega
  generalize hg8 : g7 + 1 = g8 at m8 ⊢
  have hn_5_8 : g5 ≠ g8 := by omega
  have hn_7_8 : g7 ≠ g8 := by omega
  have hn_8_5 : g8 ≠ g5 := hn_5_8.symm
  have hn_8_7 : g8 ≠ g7 := hn_7_8.symm
  have hG8 : w.heap.size ≤ g8 := by omega
  clear hsz_
  try clear hg8
  try clear hg7
  try clear hg5
  have hs_W1 : w.heap.size ≤ W1.heap.size := mB.size
  have hcon := kR W1 (hT.below mB)
  (with_reducible refine hcon.mono ?_)
  clear hcon
  rintro e W2 ⟨rfl, hb⟩
  replace m5 := blk_below m5 hb
  replace m7 := blk_below m7 hb
  replace m8 := blk_below m8 hb
  replace mB := below_step mB hb
  clear hb
  have hs_W2 : w.heap.size ≤ W2.heap.size := mB.size
  clear kR
  by_cases hr : reachE s v x t = 0
  case neg =>
    have HZ : Hid (diveE s v x t = reachE s v x t) := Lib.hid (HE.out.trans (if_pos hr))
    try clear HE
    have HV2 : Hid (diveV s v x t hd layer = z31) := Lib.hid (HV.out.trans (if_neg (by rw [HZ.out]; exact hr)))
    clear HV
    clear hok
    generalize reachE s v x t = E at *
    generalize reachV s v x t = V at *
    have hz : (E == 0) = false := beq_eq_false_iff_ne.2 hr
    have hz2 : (E != 0) = true := by rw [bne, hz]; rfl
    clear hr HRV
    have a8_0 : ∀ o_, (W2.alloc o_).cell? ⟨g8, 0, none⟩ = some (.int .i64 0) := fun o_ => (blk_cell (blk_alloc m8 o_) 0).trans rfl
    have b8_0 : ∀ o_, (W2.alloc o_).frozen? ⟨g8, 0, none⟩ = false := fun o_ => blk_frozen (blk_alloc m8 o_) 0
    have a8_1 : ∀ o_, (W2.alloc o_).cell? ⟨g8, 1, none⟩ = some (.int .i64 0) := fun o_ => (blk_cell (blk_alloc m8 o_) 1).trans rfl
    have b8_1 : ∀ o_, (W2.alloc o_).frozen? ⟨g8, 1, none⟩ = false := fun o_ => blk_frozen (blk_alloc m8 o_) 1
    have a8_2 : ∀ o_, (W2.alloc o_).cell? ⟨g8, 2, none⟩ = some (.int .i64 0) := fun o_ => (blk_cell (blk_alloc m8 o_) 2).trans rfl
    have b8_2 : ∀ o_, (W2.alloc o_).frozen? ⟨g8, 2, none⟩ = false := fun o_ => blk_frozen (blk_alloc m8 o_) 2
    have a8_3 : ∀ o_, (W2.alloc o_).cell? ⟨g8, 3, none⟩ = some (.int .i64 0) := fun o_ => (blk_cell (blk_alloc m8 o_) 3).trans rfl
    have b8_3 : ∀ o_, (W2.alloc o_).frozen? ⟨g8, 3, none⟩ = false := fun o_ => blk_frozen (blk_alloc m8 o_) 3
    go_wp2
    exact bodyPost_ret (results_ct rfl _ _ g8 31 #[.int .i64 0, .int .i64 0, .int .i64 0, .int .i64 0] (0, 0) _ rfl (blk_put (blk_put (blk_put (blk_put (blk_alloc m8 _) 0 (.int .i64 0) rfl) 1 (.int .i64 0) rfl) 2 (.int .i64 0) rfl) 3 (.int .i64 0) rfl) Try.underlying31 rfl (by kernel_rfl)) rfl ⟨by rw [HV2.out, HZ.out]; rfl, (Below.setCell (p := ⟨g8, 3, none⟩) (Below.setCell (p := ⟨g8, 2, none⟩) (Below.setCell (p := ⟨g8, 1, none⟩) (Below.setCell (p := ⟨g8, 0, none⟩) (below_alloc mB _) hG8 _) hG8 _) hG8 _) hG8 _)⟩
  case pos =>
    obtain ⟨hG, ⟨hk0, hk1⟩, _⟩ := hok hr
    clear hok
    have HE2 := Lib.hid (HE.out.trans (if_neg (fun h => h hr)))
    clear HE
    have HRV2 := Lib.hid (HRV.out.trans (if_pos hr))
    clear HRV
    rw [hr, HRV2.out]
    clear hr HRV2
    have kS := fun W (h : TripAt W b s v) => safe_any b s v (grownI s v x) W h hS.n hG hS.sh
    have kD := fun W (h : TripAt W b s v) => ends_any b s v x (grownI s v x) t hd layer W h hS.n hV hS.cu hS.cb hx.1 hG hk0 hk1 hh0 hh1 hl0 hl1
    clear hS hV hx hG hk0 hk1 hh0 hh1 hl0 hl1
    have hsf := safe_two s (grownI s v x)
    generalize endsI s v x (grownI s v x) t hd layer = Y at *
    generalize grownI s v x = G at *
    generalize safeE s G = F at *
    go_wp2_with fail
    have hl_5 := blk_lt m5
    have hl_7 := blk_lt m7
    have hl_8 := blk_lt m8
    have m10 : Blk (W2.alloc (.cells #[.int .i64 G.f0.f0, .int .i64 G.f0.f1, .int .i64 G.f1.f0, .int .i64 G.f1.f1] 31)) (W2.heap.size) #[.int .i64 G.f0.f0, .int .i64 G.f0.f1, .int .i64 G.f1.f0, .int .i64 G.f1.f1] 31 := (by have h_ := blk_new W2 (.cells #[.int .i64 G.f0.f0, .int .i64 G.f0.f1, .int .i64 G.f1.f0, .int .i64 G.f1.f1] 31); first | exact h_ | (simp only [World.size_alloc] at h_; exact h_))
    replace m5 : Blk (W2.alloc (.cells #[.int .i64 G.f0.f0, .int .i64 G.f0.f1, .int .i64 G.f1.f0, .int .i64 G.f1.f1] 31)) g5 #[.int .i64 x.f0.f0, .int .i64 x.f0.f1, .int .i64 x.f1.f0, .int .i64 x.f1.f1] 31 := (blk_alloc m5 _)
    replace m7 : Blk (W2.alloc (.cells #[.int .i64 G.f0.f0, .int .i64 G.f0.f1, .int .i64 G.f1.f0, .int .i64 G.f1.f1] 31)) g7 #[.int .i64 hd, .int .i64 layer] 33 := (blk_alloc m7 _)
    replace m8 : Blk (W2.alloc (.cells #[.int .i64 G.f0.f0, .int .i64 G.f0.f1, .int .i64 G.f1.f0, .int .i64 G.f1.f1] 31)) g8 #[.int .i64 0, .int .i64 0, .int .i64 0, .int .i64 0] 31 := (blk_alloc m8 _)
    replace mB : Below w.heap.size w (W2.alloc (.cells #[.int .i64 G.f0.f0, .int .i64 G.f0.f1, .int .i64 G.f1.f0, .int .i64 G.f1.f1] 31)) := (below_alloc mB _)
    have hsz_ : w.heap.size ≤ W2.heap.size := hs_W2
    generalize hW_ : (W2.alloc (.cells #[.int .i64 G.f0.f0, .int .i64 G.f0.f1, .int .i64 G.f1.f0, .int .i64 G.f1.f1] 31)) = W3 at m5 m7 m8 m10 mB ⊢
    clear hW_
    generalize hg10 : W2.heap.size = g10 at m10 ⊢
    have hn_5_10 : g5 ≠ g10 := by omega
    have hn_7_10 : g7 ≠ g10 := by omega
    have hn_8_10 : g8 ≠ g10 := by omega
    have hn_10_5 : g10 ≠ g5 := hn_5_10.symm
    have hn_10_7 : g10 ≠ g7 := hn_7_10.symm
    have hn_10_8 : g10 ≠ g8 := hn_8_10.symm
    have hG10 : w.heap.size ≤ g10 := by omega
    clear hsz_ hl_5 hl_7 hl_8
    try clear hg10
    have hs_W3 : w.heap.size ≤ W3.heap.size := mB.size
    have hcon := kS W3 (hT.below mB)
    (with_reducible refine hcon.mono ?_)
    clear hcon
    rintro e W4 ⟨rfl, hb⟩
    replace m5 := blk_below m5 hb
    replace m7 := blk_below m7 hb
    replace m8 := blk_below m8 hb
    replace m10 := blk_below m10 hb
    replace mB := below_step mB hb
    clear hb
    have hs_W4 : w.heap.size ≤ W4.heap.size := mB.size
    clear kS
    rcases hsf with rfl | rfl
    case inr =>
      have HZ : Hid (diveE s v x t = 21) := Lib.hid (HE2.out)
      try clear HE
      have HV2 : Hid (diveV s v x t hd layer = z31) := Lib.hid (HV.out.trans (if_neg (by rw [HZ.out]; decide)))
      clear HV
      have c8_0 := (blk_cell m8 0).trans rfl
      have c8_1 := (blk_cell m8 1).trans rfl
      have c8_2 := (blk_cell m8 2).trans rfl
      have c8_3 := (blk_cell m8 3).trans rfl
      have f8_0 := blk_frozen m8 0
      have f8_1 := blk_frozen m8 1
      have f8_2 := blk_frozen m8 2
      have f8_3 := blk_frozen m8 3
      go_wp2
      exact bodyPost_ret (results_ct rfl _ _ g8 31 #[.int .i64 0, .int .i64 0, .int .i64 0, .int .i64 0] (0, 0) _ rfl (blk_put (blk_put (blk_put (blk_put m8 0 (.int .i64 0) rfl) 1 (.int .i64 0) rfl) 2 (.int .i64 0) rfl) 3 (.int .i64 0) rfl) Try.underlying31 rfl (by kernel_rfl)) rfl ⟨by rw [HV2.out, HZ.out]; rfl, (Below.setCell (p := ⟨g8, 3, none⟩) (Below.setCell (p := ⟨g8, 2, none⟩) (Below.setCell (p := ⟨g8, 1, none⟩) (Below.setCell (p := ⟨g8, 0, none⟩) mB hG8 _) hG8 _) hG8 _) hG8 _)⟩
    case inl =>
      have HV2 := Lib.hid (HV.out.trans (if_pos HE2.out))
      clear HV
      have c5_0 := (blk_cell m5 0).trans rfl
      have c5_1 := (blk_cell m5 1).trans rfl
      have c5_2 := (blk_cell m5 2).trans rfl
      have c5_3 := (blk_cell m5 3).trans rfl
      have c7_0 := (blk_cell m7 0).trans rfl
      have c7_1 := (blk_cell m7 1).trans rfl
      have c10_0 := (blk_cell m10 0).trans rfl
      have c10_1 := (blk_cell m10 1).trans rfl
      have c10_2 := (blk_cell m10 2).trans rfl
      have c10_3 := (blk_cell m10 3).trans rfl
      go_wp2_with fail
      clear c5_0
      clear c5_1
      clear c5_2
      clear c5_3
      clear c7_0
      clear c7_1
      clear c10_0
      clear c10_1
      clear c10_2
      clear c10_3
      have hcon := kD W4 (hT.below mB)
      (with_reducible refine hcon.mono ?_)
      clear hcon
      rintro e W5 ⟨rfl, hb⟩
      replace m5 := blk_below m5 hb
      replace m7 := blk_below m7 hb
      replace m8 := blk_below m8 hb
      replace m10 := blk_below m10 hb
      replace mB := below_step mB hb
      clear hb
      have hs_W5 : w.heap.size ≤ W5.heap.size := mB.size
      clear kD
      have c8_0 := (blk_cell m8 0).trans rfl
      have c8_1 := (blk_cell m8 1).trans rfl
      have c8_2 := (blk_cell m8 2).trans rfl
      have c8_3 := (blk_cell m8 3).trans rfl
      have f8_0 := blk_frozen m8 0
      have f8_1 := blk_frozen m8 1
      have f8_2 := blk_frozen m8 2
      have f8_3 := blk_frozen m8 3
      go_wp2
      exact bodyPost_ret (results_ct rfl _ _ g8 31 #[.int .i64 Y.f0.f0, .int .i64 Y.f0.f1, .int .i64 Y.f1.f0, .int .i64 Y.f1.f1] (0, 0) _ rfl (blk_put (blk_put (blk_put (blk_put m8 0 (.int .i64 Y.f0.f0) rfl) 1 (.int .i64 Y.f0.f1) rfl) 2 (.int .i64 Y.f1.f0) rfl) 3 (.int .i64 Y.f1.f1) rfl) Try.underlying31 rfl (by kernel_rfl)) rfl ⟨by rw [HV2.out, HE2.out]; rfl, (Below.setCell (p := ⟨g8, 3, none⟩) (Below.setCell (p := ⟨g8, 2, none⟩) (Below.setCell (p := ⟨g8, 1, none⟩) (Below.setCell (p := ⟨g8, 0, none⟩) mB hG8 _) hG8 _) hG8 _) hG8 _)⟩
end Go.Proofs.Ytmhaiihjfgfaoaa.Gl
end
section
-- PRINTED by print.py (a twelfth state) out of the translation. Not trusted: Lean checks it.
namespace Go.Proofs.Ytmhaiihjfgfaoaa.Pr
open Go.RowKit Go.Proofs.YtmhaiihjfgfaoaaW.PrintWords Go.Proofs.YtmhaiihjfgfaoaaW.PrintLast Go.Proofs.YtmhaiihjfgfaoaaW.PrintMore
attribute [local go_sem] max2_int min2_int max_two min_two max_four
set_option linter.unusedVariables false
set_option linter.unusedSimpArgs false

/-! ### bound_amount: function 117 -/
def bound_amount.f (a0 : Int) : Option (Int) := some (mx a0 (wrap64 (-a0)))
set_option maxHeartbeats 8000000 in
set_option maxRecDepth 100000 in
theorem bound_amount.calls (a0 : Int) (r : Int) (w : World) (h : bound_amount.f a0 = some r) :
    Calls Try.prog 117 #[.int .i64 a0] w fun e w' => e = .returned (.int .i64 r) ∧ Below w.heap.size w w' := by
  have HB := Aside0.mk (Below.refl w.heap.size w)
  have H : (some (mx a0 (wrap64 (-a0)))) = some r := h
  clear h
  obtain ⟨ji2, hji2⟩ : ∃ j_ : Int, (mx a0 (wrap64 (-a0))) = j_ := ⟨_, rfl⟩
  replace H : (some ji2) = some r := by first | (rw [hji2] at H; exact H) | (simp only [hji2] at H ⊢; exact H)
  have hji2_ : (if a0 < (wrap64 (-a0)) then (wrap64 (-a0)) else a0) = ji2 := hji2
  obtain rfl := Option.some.inj H
  go_enter Try.func117, Try.ntmps117
  go_wp2
  go_ret
  exact ⟨by first | rfl | (simp [errW_none, errW_some] <;> rfl) | (simp only [← hji2]; first | rfl | (simp [errW_none, errW_some] <;> rfl)) | (simp [*, errW_none, errW_some] <;> rfl), by repeat (first | (with_reducible first | exact HB.out | apply below_alloc | apply pw_below_drewN | apply below_drew1) | exact HB.out)⟩

end Go.Proofs.Ytmhaiihjfgfaoaa.Pr
end
section
-- PRINTED by print.py (a twelfth state) out of the translation. Not trusted: Lean checks it.
namespace Go.Proofs.Ytmhaiihjfgfaoaa.Pr
open Go.RowKit Go.Proofs.YtmhaiihjfgfaoaaW.PrintWords Go.Proofs.YtmhaiihjfgfaoaaW.PrintLast Go.Proofs.YtmhaiihjfgfaoaaW.PrintMore
attribute [local go_sem] max2_int min2_int max_two min_two max_four
set_option linter.unusedVariables false
set_option linter.unusedSimpArgs false

/-! ### bound_CheckBox: function 67 -/
def bound_CheckBox.f (k : Nat) (a0_0 : Int) (a0_1 : Int) (a0_2 : Int) (a0_3 : Int) : Option (Int) := (bound_check.f k (([(⟨a0_0, a0_1⟩ : S27), (⟨a0_2, a0_3⟩ : S27)] : List (S27)))).bind fun t148 => (if t148 = 0 then ((bound_amount.f a0_0).bind fun t149 => ((bound_amount.f a0_1).bind fun t150 => ((bound_amount.f a0_2).bind fun t151 => ((bound_amount.f a0_3).bind fun t152 => (if (mx (mx (mx t149 t150) t151) t152) > 268435456 then (some 2) else (some 0)))))) else (some t148))
def bound_CheckBox.T4 : Bool × List (List Nat × List Nat) := (true, [([], []), ([0], [0]), ([1], [1]), ([2], [2]), ([], []), ([4], [4]), ([5], [5]), ([6, 3], [6]), ([], []), ([8], [8]), ([9], [9]), ([10, 7], [10]), ([], []), ([12], [12]), ([13], [13]), ([14, 11], [14]), ([3, 7, 11, 15], [3, 7, 11, 15]), ([16], [16])])
def bound_CheckBox.B4 : List Nat := [0, 1, 3, 7, 0, 16, 48, 127, 0, 256, 768, 2047, 0, 4096, 12288, 32767, 65535, 131071]
theorem bound_CheckBox.tab4 : rtab .any (opsOf Try.f67 4) = bound_CheckBox.T4 := by kernel_rfl
theorem bound_CheckBox.bits4 : waitsOk bound_CheckBox.T4.2 bound_CheckBox.B4 = true := by kernel_rfl
set_option maxHeartbeats 8000000 in
set_option maxRecDepth 100000 in
theorem bound_CheckBox.calls (k : Nat) (a0_0 : Int) (a0_1 : Int) (a0_2 : Int) (a0_3 : Int) (r : Int) (w : World) (h : bound_CheckBox.f k a0_0 a0_1 a0_2 a0_3 = some r) :
    Calls Try.prog 67 #[.agg #[.int .i64 a0_0, .int .i64 a0_1, .int .i64 a0_2, .int .i64 a0_3]] w fun e w' => e = .returned (.int .i64 r) ∧ Below w.heap.size w w' := by
  have hu31 := Try.underlying31
  have hu27 := Try.underlying27
  have HB := Aside0.mk (Below.refl w.heap.size w)
  have H : ((bound_check.f k (([(⟨a0_0, a0_1⟩ : S27), (⟨a0_2, a0_3⟩ : S27)] : List (S27)))).bind fun t148 => (if t148 = 0 then ((bound_amount.f a0_0).bind fun t149 => ((bound_amount.f a0_1).bind fun t150 => ((bound_amount.f a0_2).bind fun t151 => ((bound_amount.f a0_3).bind fun t152 => (if (mx (mx (mx t149 t150) t151) t152) > 268435456 then (some 2) else (some 0)))))) else (some t148))) = some r := h
  clear h
  obtain ⟨y145, hy145⟩ : ∃ y_ : List (S27), y_ = (([(⟨a0_0, a0_1⟩ : S27), (⟨a0_2, a0_3⟩ : S27)] : List (S27))) := ⟨_, rfl⟩
  replace H : ((bound_check.f k y145).bind fun t148 => (if t148 = 0 then ((bound_amount.f a0_0).bind fun t149 => ((bound_amount.f a0_1).bind fun t150 => ((bound_amount.f a0_2).bind fun t151 => ((bound_amount.f a0_3).bind fun t152 => (if (mx (mx (mx t149 t150) t151) t152) > 268435456 then (some 2) else (some 0)))))) else (some t148))) = some r := by first | (rw [hy145]; with_reducible exact H) | (have H2_ := (Option.bind_some _ _).symm.trans H; rw [hy145]; with_reducible exact H2_) | (have H2_ := (Option.bind_some _ _).symm.trans H; with_reducible exact H2_) | with_reducible exact H | (rw [hy145]; exact H) | exact H
  have Ny145 := Aside0.mk hy145
  clear hy145
  replace H := Option.bind_eq_some_iff.mp H
  obtain ⟨t148, A20, H⟩ := H
  replace H : (if t148 = 0 then ((bound_amount.f a0_0).bind fun t149 => ((bound_amount.f a0_1).bind fun t150 => ((bound_amount.f a0_2).bind fun t151 => ((bound_amount.f a0_3).bind fun t152 => (if (mx (mx (mx t149 t150) t151) t152) > 268435456 then (some 2) else (some 0)))))) else (some t148)) = some r := H
  have A2 := Aside0.mk A20
  clear A20
  by_cases c3 : t148 = 0
  · rw [if_pos c3] at H
    have c3b0 : (t148 == 0) = true := beq_iff_eq.mpr c3
    have c3b1 : (t148 != 0) = false := bne_eq_false_iff_eq.mpr c3
    clear c3
    replace H := Option.bind_eq_some_iff.mp H
    obtain ⟨t149, A40, H⟩ := H
    replace H : ((bound_amount.f a0_1).bind fun t150 => ((bound_amount.f a0_2).bind fun t151 => ((bound_amount.f a0_3).bind fun t152 => (if (mx (mx (mx t149 t150) t151) t152) > 268435456 then (some 2) else (some 0))))) = some r := H
    have A4 := Aside0.mk A40
    clear A40
    replace H := Option.bind_eq_some_iff.mp H
    obtain ⟨t150, A50, H⟩ := H
    replace H : ((bound_amount.f a0_2).bind fun t151 => ((bound_amount.f a0_3).bind fun t152 => (if (mx (mx (mx t149 t150) t151) t152) > 268435456 then (some 2) else (some 0)))) = some r := H
    have A5 := Aside0.mk A50
    clear A50
    replace H := Option.bind_eq_some_iff.mp H
    obtain ⟨t151, A60, H⟩ := H
    replace H : ((bound_amount.f a0_3).bind fun t152 => (if (mx (mx (mx t149 t150) t151) t152) > 268435456 then (some 2) else (some 0))) = some r := H
    have A6 := Aside0.mk A60
    clear A60
    replace H := Option.bind_eq_some_iff.mp H
    obtain ⟨t152, A70, H⟩ := H
    replace H : (if (mx (mx (mx t149 t150) t151) t152) > 268435456 then (some 2) else (some 0)) = some r := H
    have A7 := Aside0.mk A70
    clear A70
    obtain ⟨ji8, hji8⟩ : ∃ j_ : Int, (mx t149 t150) = j_ := ⟨_, rfl⟩
    replace H : (if (mx (mx (ji8) t151) t152) > 268435456 then (some 2) else (some 0)) = some r := by first | (rw [hji8] at H; exact H) | (simp only [hji8] at H ⊢; exact H)
    (try rw [hji8] at A2)
    (try rw [hji8] at A4)
    (try rw [hji8] at A5)
    (try rw [hji8] at A6)
    (try rw [hji8] at A7)
    have hji8_ : (if t149 < t150 then t150 else t149) = ji8 := hji8
    obtain ⟨ji9, hji9⟩ : ∃ j_ : Int, (mx (ji8) t151) = j_ := ⟨_, rfl⟩
    replace H : (if (mx (ji9) t152) > 268435456 then (some 2) else (some 0)) = some r := by first | (rw [hji9] at H; exact H) | (simp only [hji9] at H ⊢; exact H)
    (try rw [hji9] at A2)
    (try rw [hji9] at A4)
    (try rw [hji9] at A5)
    (try rw [hji9] at A6)
    (try rw [hji9] at A7)
    have hji9_ : (if (ji8) < t151 then t151 else (ji8)) = ji9 := hji9
    obtain ⟨ji10, hji10⟩ : ∃ j_ : Int, (mx (ji9) t152) = j_ := ⟨_, rfl⟩
    replace H : (if (ji10) > 268435456 then (some 2) else (some 0)) = some r := by first | (rw [hji10] at H; exact H) | (simp only [hji10] at H ⊢; exact H)
    (try rw [hji10] at A2)
    (try rw [hji10] at A4)
    (try rw [hji10] at A5)
    (try rw [hji10] at A6)
    (try rw [hji10] at A7)
    have hji10_ : (if (ji9) < t152 then t152 else (ji9)) = ji10 := hji10
    by_cases c11 : (ji10) > 268435456
    · rw [if_pos c11] at H
      have c11b0 : decide (268435456 < (ji10)) = true := decide_eq_true c11
      clear c11
      obtain rfl := Option.some.inj H
      go_enter Try.func67, Try.ntmps67
      try go_wp2_with (first | ((with_reducible refine gate_dst (N := 1) rfl ?_); refine box_event ?hg (N := 1) ?hd (cs := #[.int .i64 a0_0, .int .i64 a0_1, .int .i64 a0_2, .int .i64 a0_3]) (t := 31) ?hr ?_; (case hd => rfl); (case hg => rfl); (case hr => first | (go_simp; done) | (go_simp; rfl)); intro gb144 hg w12 hbox hb; have n0_ := Aside0.mk (below_step (by repeat (first | (with_reducible first | exact HB.out | apply below_alloc | apply pw_below_drewN | apply below_drew1) | exact HB.out)) hb); have n1_ := Aside0.mk (hbox); have n2_ := Aside0.mk ((by rw [hg]; exact (below_size (by repeat (first | (with_reducible first | exact HB.out | apply below_alloc | apply pw_below_drewN | apply below_drew1) | exact HB.out))) : w.heap.size ≤ gb144)); have n3_ := Aside0.mk ((by rw [hg]; exact (below_size (by repeat (first | (with_reducible first | exact HB.out | apply below_alloc | apply pw_below_drewN | apply below_drew1) | exact HB.out))) : w.heap.size ≤ gb144)); clear HB; have HB := n0_; have BK144 := n1_; have GW144 := n2_; have GE144 := n3_; clear n0_ n1_ n2_ n3_; clear hb hbox hg; have hcz13_0 : w12.cell? ⟨gb144, 0, none⟩ = some (.int .i64 a0_0) := (blk_cell BK144.out 0).trans rfl; have hcz13_1 : w12.cell? ⟨gb144, 1, none⟩ = some (.int .i64 a0_1) := (blk_cell BK144.out 1).trans rfl; have hcz13_2 : w12.cell? ⟨gb144, 2, none⟩ = some (.int .i64 a0_2) := (blk_cell BK144.out 2).trans rfl; have hcz13_3 : w12.cell? ⟨gb144, 3, none⟩ = some (.int .i64 a0_3) := (blk_cell BK144.out 3).trans rfl; have hfz13_0 := blk_frozen BK144.out 0; have hfz13_1 := blk_frozen BK144.out 1; have hfz13_2 := blk_frozen BK144.out 2; have hfz13_3 := blk_frozen BK144.out 3) | ((with_reducible refine gate_dst (N := 8) rfl ?_); refine Kd.R_lit k27 _ 27 ?hg (N := 8) ?hd (xs := ([(⟨a0_0, a0_1⟩ : S27), (⟨a0_2, a0_3⟩ : S27)] : List (S27))) (inner := [.int .i64 a0_0, .int .i64 a0_1, .int .i64 a0_2, .int .i64 a0_3]) (ok := fun _ => True) (okp := fun _ => True) ?hr ?hp (fun _ hk => hk) trivial (Below.refl _ _) (Nat.le_refl _) (by simp) ?_; (case hd => rfl); (case hg => rfl); (case hr => first | (go_simp; done) | (go_simp; rfl)); (case hp => exact (Reps.c2 (show Kd.M k27 _ _ _ (⟨a0_0, a0_1⟩ : S27) [.int .i64 a0_0, .int .i64 a0_1] from (k27_mkM _ _ _ (⟨a0_0, a0_1⟩ : S27) )) (Reps.c2 (show Kd.M k27 _ _ _ (⟨a0_2, a0_3⟩ : S27) [.int .i64 a0_2, .int .i64 a0_3] from (k27_mkM _ _ _ (⟨a0_2, a0_3⟩ : S27) )) (Reps.none _ _)))); intro v146 w14 ho15 hb hg_ hnew_; clear hg_ hnew_; (first | rw [← Ny145.out] at ho15 | (simp only [Int.reduceToNat] at ho15; rw [← Ny145.out] at ho15)); have n0_ := Aside0.mk (Kd.R_lower ho15 (below_size (by repeat (first | (with_reducible first | exact HB.out | apply below_alloc | apply pw_below_drewN | apply below_drew1 | refine below_set ?_ GE144.out) | exact HB.out)))); have n1_ := Aside0.mk (blk_below (g := gb144) (o := .cells #[.int .i64 a0_0, .int .i64 a0_1, .int .i64 a0_2, .int .i64 a0_3] 31 (0, 0)) (by (with_reducible repeat (first | refine blk_drewN ?_ _ | refine blk_drew ?_ | refine blk_alloc ?_ _)); exact BK144.out) hb); have n2_ := Aside0.mk (below_step (by repeat (first | (with_reducible first | exact HB.out | apply below_alloc | apply pw_below_drewN | apply below_drew1 | refine below_set ?_ GE144.out) | exact HB.out)) hb); clear BK144; clear HB; have HO147 := n0_; have BK144 := n1_; have HB := n2_; clear n0_ n1_ n2_; clear hb ho15; obtain ⟨Ao16, co16, eo16⟩ := Kd.R_slice HO147.out; subst eo16) | ((with_reducible refine gate_callee (f := 116) rfl ?_); refine goesL_ (some 9) rfl rfl Try.func116 (by kernel_rfl) rfl #[.slice Ao16 y145.length co16] rfl (by (try simp only [List.map_toArray, List.map_cons, List.map_nil]); first | done | rfl | (simp only [List.length_drop, List.length_take]; rfl)) ?_; (with_reducible refine (bound_check.calls k _ _ y145 t148 _ ?side1 ?side2 A2.out).mono ?_); (case side1 => repeat (first | exact (Kd.R_reads' HO147.out).2.2 | (with_reducible refine Kd.C_alloc ?_ _) | (with_reducible refine Kd.C_drewN ?_ _) | (with_reducible refine Kd.C_drew ?_))); (case side2 => exact (Kd.R_reads' HO147.out).2.1); rintro e w17 ⟨rfl, hb⟩; refine ⟨_, rfl, ?_⟩; have n0_ := Aside0.mk (Kd.R_below (by (with_reducible repeat (first | apply Kd.R_alloc | apply Kd.R_drewN | apply Kd.R_drew)); exact HO147.out) hb); have n1_ := Aside0.mk (blk_below (g := gb144) (o := .cells #[.int .i64 a0_0, .int .i64 a0_1, .int .i64 a0_2, .int .i64 a0_3] 31 (0, 0)) (by (with_reducible repeat (first | refine blk_drewN ?_ _ | refine blk_drew ?_ | refine blk_alloc ?_ _)); exact BK144.out) hb); have n2_ := Aside0.mk (below_step (by repeat (first | (with_reducible first | exact HB.out | apply below_alloc | apply pw_below_drewN | apply below_drew1 | refine below_set ?_ GE144.out) | exact HB.out)) hb); clear HO147; clear BK144; clear HB; have HO147 := n0_; have BK144 := n1_; have HB := n2_; clear n0_ n1_ n2_; (try clear hb); (try clear hb2); (try clear hk); (try clear hi)))
      have n0_ := Aside0.mk (Kd.R_drew HO147.out)
      have n1_ := Aside0.mk (blk_drew BK144.out)
      have n2_ := Aside0.mk (below_drew1 HB.out)
      clear HO147
      clear BK144
      clear HB
      have HO147 := n0_
      have BK144 := n1_
      have HB := n2_
      clear n0_ n1_ n2_
      refine start_ (n := 18) (S := fun w' => w'.cell? ⟨gb144, 0, none⟩ = some (.int .i64 a0_0) ∧ w'.cell? ⟨gb144, 1, none⟩ = some (.int .i64 a0_1) ∧ w'.cell? ⟨gb144, 2, none⟩ = some (.int .i64 a0_2) ∧ w'.cell? ⟨gb144, 3, none⟩ = some (.int .i64 a0_3)) (ds := []) #[false, false, false, false, false, false, false, false, false, false, false, false, false, false, false, false, false, false] (by kernel_rfl) rfl rfl ⟨(blk_cell BK144.out 0).trans rfl, (blk_cell BK144.out 1).trans rfl, (blk_cell BK144.out 2).trans rfl, (blk_cell BK144.out 3).trans rfl⟩ (fun hHeld => ?_); refine with_tabW bound_CheckBox.tab4 bound_CheckBox.bits4 (fun HT_ HW_ => ?_)
      generalize w17.drew = w18 at HO147 BK144 HB hHeld ⊢
      refine pure_ (i := 0) (N := some 13) (v := ?_) (a' := ?_) #[true, false, false, false, false, false, false, false, false, false, false, false, false, false, false, false, false, false] rfl rfl (any_of HT_.out (by kernel_rfl)) (fun _ _ _ h => h) (Or.inl ⟨by rfl, ?_⟩) ?_ ?_
      rotate_left
      · intro w'
        go_simp
        with_reducible rfl
      rotate_left
      · simp only [Act.put, List.setIfInBounds_toArray, List.set_cons_zero, List.set_cons_succ, i64_w, i32_w]
        rfl
      refine pure_ (i := 1) (N := some 14) (v := ?_) (a' := ?_) #[true, true, false, false, false, false, false, false, false, false, false, false, false, false, false, false, false, false] rfl rfl (any_of HT_.out (by kernel_rfl)) (fun _ _ _ h => h) (Or.inl ⟨by rfl, ?_⟩) ?_ ?_
      rotate_left
      · intro w'
        go_simp
        with_reducible rfl
      rotate_left
      · simp only [Act.put, List.setIfInBounds_toArray, List.set_cons_zero, List.set_cons_succ, i64_w, i32_w]
        rfl
      refine pure_ (i := 4) (N := some 17) (v := ?_) (a' := ?_) #[true, true, false, false, true, false, false, false, false, false, false, false, false, false, false, false, false, false] rfl rfl (any_of HT_.out (by kernel_rfl)) (fun _ _ _ h => h) (Or.inl ⟨by rfl, ?_⟩) ?_ ?_
      rotate_left
      · intro w'
        go_simp
        with_reducible rfl
      rotate_left
      · simp only [Act.put, List.setIfInBounds_toArray, List.set_cons_zero, List.set_cons_succ, i64_w, i32_w]
        rfl
      refine pure_ (i := 5) (N := some 18) (v := ?_) (a' := ?_) #[true, true, false, false, true, true, false, false, false, false, false, false, false, false, false, false, false, false] rfl rfl (any_of HT_.out (by kernel_rfl)) (fun _ _ _ h => h) (Or.inl ⟨by rfl, ?_⟩) ?_ ?_
      rotate_left
      · intro w'
        go_simp
        with_reducible rfl
      rotate_left
      · simp only [Act.put, List.setIfInBounds_toArray, List.set_cons_zero, List.set_cons_succ, i64_w, i32_w]
        rfl
      refine pure_ (i := 8) (N := some 21) (v := ?_) (a' := ?_) #[true, true, false, false, true, true, false, false, true, false, false, false, false, false, false, false, false, false] rfl rfl (any_of HT_.out (by kernel_rfl)) (fun _ _ _ h => h) (Or.inl ⟨by rfl, ?_⟩) ?_ ?_
      rotate_left
      · intro w'
        go_simp
        with_reducible rfl
      rotate_left
      · simp only [Act.put, List.setIfInBounds_toArray, List.set_cons_zero, List.set_cons_succ, i64_w, i32_w]
        rfl
      refine pure_ (i := 9) (N := some 22) (v := ?_) (a' := ?_) #[true, true, false, false, true, true, false, false, true, true, false, false, false, false, false, false, false, false] rfl rfl (any_of HT_.out (by kernel_rfl)) (fun _ _ _ h => h) (Or.inl ⟨by rfl, ?_⟩) ?_ ?_
      rotate_left
      · intro w'
        go_simp
        with_reducible rfl
      rotate_left
      · simp only [Act.put, List.setIfInBounds_toArray, List.set_cons_zero, List.set_cons_succ, i64_w, i32_w]
        rfl
      refine pure_ (i := 12) (N := some 25) (v := ?_) (a' := ?_) #[true, true, false, false, true, true, false, false, true, true, false, false, true, false, false, false, false, false] rfl rfl (any_of HT_.out (by kernel_rfl)) (fun _ _ _ h => h) (Or.inl ⟨by rfl, ?_⟩) ?_ ?_
      rotate_left
      · intro w'
        go_simp
        with_reducible rfl
      rotate_left
      · simp only [Act.put, List.setIfInBounds_toArray, List.set_cons_zero, List.set_cons_succ, i64_w, i32_w]
        rfl
      refine pure_ (i := 13) (N := some 26) (v := ?_) (a' := ?_) #[true, true, false, false, true, true, false, false, true, true, false, false, true, true, false, false, false, false] rfl rfl (any_of HT_.out (by kernel_rfl)) (fun _ _ _ h => h) (Or.inl ⟨by rfl, ?_⟩) ?_ ?_
      rotate_left
      · intro w'
        go_simp
        with_reducible rfl
      rotate_left
      · simp only [Act.put, List.setIfInBounds_toArray, List.set_cons_zero, List.set_cons_succ, i64_w, i32_w]
        rfl
      refine take_ (i := 2) (N := some 15) (v := ?_) (a' := ?_) #[true, true, true, false, true, true, false, false, true, true, false, false, true, true, false, false, false, false] rfl rfl (take_ofW HT_.out HW_.out (by kernel_rfl)) (fun _ _ _ h => h) (Or.inl ⟨by rfl, ?_⟩) hHeld ?_ ?_
      rotate_left
      · rintro w' ⟨s0, s1, s2, s3⟩
        go_simp
        with_reducible rfl
      rotate_left
      · simp only [Act.put, List.setIfInBounds_toArray, List.set_cons_zero, List.set_cons_succ, i64_w, i32_w]
        rfl
      refine take_ (i := 6) (N := some 19) (v := ?_) (a' := ?_) #[true, true, true, false, true, true, true, false, true, true, false, false, true, true, false, false, false, false] rfl rfl (take_ofW HT_.out HW_.out (by kernel_rfl)) (fun _ _ _ h => h) (Or.inl ⟨by rfl, ?_⟩) hHeld ?_ ?_
      rotate_left
      · rintro w' ⟨s0, s1, s2, s3⟩
        go_simp
        with_reducible rfl
      rotate_left
      · simp only [Act.put, List.setIfInBounds_toArray, List.set_cons_zero, List.set_cons_succ, i64_w, i32_w]
        rfl
      refine take_ (i := 10) (N := some 23) (v := ?_) (a' := ?_) #[true, true, true, false, true, true, true, false, true, true, true, false, true, true, false, false, false, false] rfl rfl (take_ofW HT_.out HW_.out (by kernel_rfl)) (fun _ _ _ h => h) (Or.inl ⟨by rfl, ?_⟩) hHeld ?_ ?_
      rotate_left
      · rintro w' ⟨s0, s1, s2, s3⟩
        go_simp
        with_reducible rfl
      rotate_left
      · simp only [Act.put, List.setIfInBounds_toArray, List.set_cons_zero, List.set_cons_succ, i64_w, i32_w]
        rfl
      refine take_ (i := 14) (N := some 27) (v := ?_) (a' := ?_) #[true, true, true, false, true, true, true, false, true, true, true, false, true, true, true, false, false, false] rfl rfl (take_ofW HT_.out HW_.out (by kernel_rfl)) (fun _ _ _ h => h) (Or.inl ⟨by rfl, ?_⟩) hHeld ?_ ?_
      rotate_left
      · rintro w' ⟨s0, s1, s2, s3⟩
        go_simp
        with_reducible rfl
      rotate_left
      · simp only [Act.put, List.setIfInBounds_toArray, List.set_cons_zero, List.set_cons_succ, i64_w, i32_w]
        rfl
      refine one_ (i := 3) (N := some 16) #[true, true, true, true, true, true, true, false, true, true, true, false, true, true, true, false, false, false] rfl rfl (one_of HT_.out (by kernel_rfl)) (by decide) (fun K hK => ?_)
      refine goes_ Try.func117 (by kernel_rfl) rfl #[.int .i64 a0_0] (by rfl) rfl rfl (by (try simp only [List.map_toArray, List.map_cons, List.map_nil]); first | done | rfl | (simp only [List.length_drop, List.length_take]; rfl)) ?_
      with_reducible refine (bound_amount.calls a0_0 t149 _ A4.out).mono ?_
      rintro e w19 ⟨rfl, hb⟩
      refine ⟨_, rfl, ?_⟩
      have n0_ := Aside0.mk (Kd.R_below (by (with_reducible repeat (first | apply Kd.R_alloc | apply Kd.R_drewN | apply Kd.R_drew)); exact HO147.out) hb)
      have n1_ := Aside0.mk (blk_below (g := gb144) (o := .cells #[.int .i64 a0_0, .int .i64 a0_1, .int .i64 a0_2, .int .i64 a0_3] 31 (0, 0)) (by (with_reducible repeat (first | refine blk_drewN ?_ _ | refine blk_drew ?_ | refine blk_alloc ?_ _)); exact BK144.out) hb)
      have n2_ := Aside0.mk (below_step (by repeat (first | (with_reducible first | exact HB.out | apply below_alloc | apply pw_below_drewN | apply below_drew1 | refine below_set ?_ GE144.out) | exact HB.out)) hb)
      clear HO147
      clear BK144
      clear HB
      have HO147 := n0_
      have BK144 := n1_
      have HB := n2_
      clear n0_ n1_ n2_
      (try clear hb)
      (try clear hb2)
      (try clear hk)
      (try clear hi)
      refine hK.out _ _ ⟨(blk_cell BK144.out 0).trans rfl, (blk_cell BK144.out 1).trans rfl, (blk_cell BK144.out 2).trans rfl, (blk_cell BK144.out 3).trans rfl⟩ (fun hHeld => ?_)
      clear hK K
      refine norm_ (a' := ?_) ?_ ?_
      rotate_left
      · show Act.put _ (some 16) _ = _
        simp only [Act.put, List.setIfInBounds_toArray, List.set_cons_zero, List.set_cons_succ, i64_w, i32_w]
        rfl
      refine one_ (i := 7) (N := some 20) #[true, true, true, true, true, true, true, true, true, true, true, false, true, true, true, false, false, false] rfl rfl (one_of HT_.out (by kernel_rfl)) (by decide) (fun K hK => ?_)
      refine goes_ Try.func117 (by kernel_rfl) rfl #[.int .i64 a0_1] (by rfl) rfl rfl (by (try simp only [List.map_toArray, List.map_cons, List.map_nil]); first | done | rfl | (simp only [List.length_drop, List.length_take]; rfl)) ?_
      with_reducible refine (bound_amount.calls a0_1 t150 _ A5.out).mono ?_
      rintro e w20 ⟨rfl, hb⟩
      refine ⟨_, rfl, ?_⟩
      have n0_ := Aside0.mk (Kd.R_below (by (with_reducible repeat (first | apply Kd.R_alloc | apply Kd.R_drewN | apply Kd.R_drew)); exact HO147.out) hb)
      have n1_ := Aside0.mk (blk_below (g := gb144) (o := .cells #[.int .i64 a0_0, .int .i64 a0_1, .int .i64 a0_2, .int .i64 a0_3] 31 (0, 0)) (by (with_reducible repeat (first | refine blk_drewN ?_ _ | refine blk_drew ?_ | refine blk_alloc ?_ _)); exact BK144.out) hb)
      have n2_ := Aside0.mk (below_step (by repeat (first | (with_reducible first | exact HB.out | apply below_alloc | apply pw_below_drewN | apply below_drew1 | refine below_set ?_ GE144.out) | exact HB.out)) hb)
      clear HO147
      clear BK144
      clear HB
      have HO147 := n0_
      have BK144 := n1_
      have HB := n2_
      clear n0_ n1_ n2_
      (try clear hb)
      (try clear hb2)
      (try clear hk)
      (try clear hi)
      refine hK.out _ _ ⟨(blk_cell BK144.out 0).trans rfl, (blk_cell BK144.out 1).trans rfl, (blk_cell BK144.out 2).trans rfl, (blk_cell BK144.out 3).trans rfl⟩ (fun hHeld => ?_)
      clear hK K
      refine norm_ (a' := ?_) ?_ ?_
      rotate_left
      · show Act.put _ (some 20) _ = _
        simp only [Act.put, List.setIfInBounds_toArray, List.set_cons_zero, List.set_cons_succ, i64_w, i32_w]
        rfl
      refine one_ (i := 11) (N := some 24) #[true, true, true, true, true, true, true, true, true, true, true, true, true, true, true, false, false, false] rfl rfl (one_of HT_.out (by kernel_rfl)) (by decide) (fun K hK => ?_)
      refine goes_ Try.func117 (by kernel_rfl) rfl #[.int .i64 a0_2] (by rfl) rfl rfl (by (try simp only [List.map_toArray, List.map_cons, List.map_nil]); first | done | rfl | (simp only [List.length_drop, List.length_take]; rfl)) ?_
      with_reducible refine (bound_amount.calls a0_2 t151 _ A6.out).mono ?_
      rintro e w21 ⟨rfl, hb⟩
      refine ⟨_, rfl, ?_⟩
      have n0_ := Aside0.mk (Kd.R_below (by (with_reducible repeat (first | apply Kd.R_alloc | apply Kd.R_drewN | apply Kd.R_drew)); exact HO147.out) hb)
      have n1_ := Aside0.mk (blk_below (g := gb144) (o := .cells #[.int .i64 a0_0, .int .i64 a0_1, .int .i64 a0_2, .int .i64 a0_3] 31 (0, 0)) (by (with_reducible repeat (first | refine blk_drewN ?_ _ | refine blk_drew ?_ | refine blk_alloc ?_ _)); exact BK144.out) hb)
      have n2_ := Aside0.mk (below_step (by repeat (first | (with_reducible first | exact HB.out | apply below_alloc | apply pw_below_drewN | apply below_drew1 | refine below_set ?_ GE144.out) | exact HB.out)) hb)
      clear HO147
      clear BK144
      clear HB
      have HO147 := n0_
      have BK144 := n1_
      have HB := n2_
      clear n0_ n1_ n2_
      (try clear hb)
      (try clear hb2)
      (try clear hk)
      (try clear hi)
      refine hK.out _ _ ⟨(blk_cell BK144.out 0).trans rfl, (blk_cell BK144.out 1).trans rfl, (blk_cell BK144.out 2).trans rfl, (blk_cell BK144.out 3).trans rfl⟩ (fun hHeld => ?_)
      clear hK K
      refine norm_ (a' := ?_) ?_ ?_
      rotate_left
      · show Act.put _ (some 24) _ = _
        simp only [Act.put, List.setIfInBounds_toArray, List.set_cons_zero, List.set_cons_succ, i64_w, i32_w]
        rfl
      refine one_ (i := 15) (N := some 28) #[true, true, true, true, true, true, true, true, true, true, true, true, true, true, true, true, false, false] rfl rfl (one_of HT_.out (by kernel_rfl)) (by decide) (fun K hK => ?_)
      refine goes_ Try.func117 (by kernel_rfl) rfl #[.int .i64 a0_3] (by rfl) rfl rfl (by (try simp only [List.map_toArray, List.map_cons, List.map_nil]); first | done | rfl | (simp only [List.length_drop, List.length_take]; rfl)) ?_
      with_reducible refine (bound_amount.calls a0_3 t152 _ A7.out).mono ?_
      rintro e w22 ⟨rfl, hb⟩
      refine ⟨_, rfl, ?_⟩
      have n0_ := Aside0.mk (Kd.R_below (by (with_reducible repeat (first | apply Kd.R_alloc | apply Kd.R_drewN | apply Kd.R_drew)); exact HO147.out) hb)
      have n1_ := Aside0.mk (blk_below (g := gb144) (o := .cells #[.int .i64 a0_0, .int .i64 a0_1, .int .i64 a0_2, .int .i64 a0_3] 31 (0, 0)) (by (with_reducible repeat (first | refine blk_drewN ?_ _ | refine blk_drew ?_ | refine blk_alloc ?_ _)); exact BK144.out) hb)
      have n2_ := Aside0.mk (below_step (by repeat (first | (with_reducible first | exact HB.out | apply below_alloc | apply pw_below_drewN | apply below_drew1 | refine below_set ?_ GE144.out) | exact HB.out)) hb)
      clear HO147
      clear BK144
      clear HB
      have HO147 := n0_
      have BK144 := n1_
      have HB := n2_
      clear n0_ n1_ n2_
      (try clear hb)
      (try clear hb2)
      (try clear hk)
      (try clear hi)
      refine hK.out _ _ ⟨(blk_cell BK144.out 0).trans rfl, (blk_cell BK144.out 1).trans rfl, (blk_cell BK144.out 2).trans rfl, (blk_cell BK144.out 3).trans rfl⟩ (fun hHeld => ?_)
      clear hK K
      refine norm_ (a' := ?_) ?_ ?_
      rotate_left
      · show Act.put _ (some 28) _ = _
        simp only [Act.put, List.setIfInBounds_toArray, List.set_cons_zero, List.set_cons_succ, i64_w, i32_w]
        rfl
      refine pure_ (i := 16) (N := some 29) (v := ?_) (a' := ?_) #[true, true, true, true, true, true, true, true, true, true, true, true, true, true, true, true, true, false] rfl rfl (any_of HT_.out (by kernel_rfl)) (fun _ _ _ h => h) (Or.inl ⟨by rfl, ?_⟩) ?_ ?_
      rotate_left
      · intro w'
        go_simp
        with_reducible rfl
      rotate_left
      · simp only [Act.put, List.setIfInBounds_toArray, List.set_cons_zero, List.set_cons_succ, i64_w, i32_w]
        rfl
      refine pure_ (i := 17) (N := some 30) (v := ?_) (a' := ?_) #[true, true, true, true, true, true, true, true, true, true, true, true, true, true, true, true, true, true] rfl rfl (any_of HT_.out (by kernel_rfl)) (fun _ _ _ h => h) (Or.inl ⟨by rfl, ?_⟩) ?_ ?_
      rotate_left
      · intro w'
        go_simp
        with_reducible rfl
      rotate_left
      · simp only [Act.put, List.setIfInBounds_toArray, List.set_cons_zero, List.set_cons_succ, i64_w, i32_w]
        rfl
      refine done_ (done_of HT_.out (by kernel_rfl)) ?_
      try go_wp2
      go_ret
      exact ⟨by first | rfl | (simp [errW_none, errW_some] <;> rfl) | (simp only [← hji8, ← hji9, ← hji10]; first | rfl | (simp [errW_none, errW_some] <;> rfl)) | (simp [*, errW_none, errW_some] <;> rfl), by repeat (first | (with_reducible first | exact HB.out | apply below_alloc | apply pw_below_drewN | apply below_drew1 | refine below_set ?_ GE144.out) | exact HB.out)⟩
    · rw [if_neg c11] at H
      have c11b0 : decide (268435456 < (ji10)) = false := decide_eq_false c11
      clear c11
      obtain rfl := Option.some.inj H
      go_enter Try.func67, Try.ntmps67
      try go_wp2_with (first | ((with_reducible refine gate_dst (N := 1) rfl ?_); refine box_event ?hg (N := 1) ?hd (cs := #[.int .i64 a0_0, .int .i64 a0_1, .int .i64 a0_2, .int .i64 a0_3]) (t := 31) ?hr ?_; (case hd => rfl); (case hg => rfl); (case hr => first | (go_simp; done) | (go_simp; rfl)); intro gb144 hg w23 hbox hb; have n0_ := Aside0.mk (below_step (by repeat (first | (with_reducible first | exact HB.out | apply below_alloc | apply pw_below_drewN | apply below_drew1) | exact HB.out)) hb); have n1_ := Aside0.mk (hbox); have n2_ := Aside0.mk ((by rw [hg]; exact (below_size (by repeat (first | (with_reducible first | exact HB.out | apply below_alloc | apply pw_below_drewN | apply below_drew1) | exact HB.out))) : w.heap.size ≤ gb144)); have n3_ := Aside0.mk ((by rw [hg]; exact (below_size (by repeat (first | (with_reducible first | exact HB.out | apply below_alloc | apply pw_below_drewN | apply below_drew1) | exact HB.out))) : w.heap.size ≤ gb144)); clear HB; have HB := n0_; have BK144 := n1_; have GW144 := n2_; have GE144 := n3_; clear n0_ n1_ n2_ n3_; clear hb hbox hg; have hcz24_0 : w23.cell? ⟨gb144, 0, none⟩ = some (.int .i64 a0_0) := (blk_cell BK144.out 0).trans rfl; have hcz24_1 : w23.cell? ⟨gb144, 1, none⟩ = some (.int .i64 a0_1) := (blk_cell BK144.out 1).trans rfl; have hcz24_2 : w23.cell? ⟨gb144, 2, none⟩ = some (.int .i64 a0_2) := (blk_cell BK144.out 2).trans rfl; have hcz24_3 : w23.cell? ⟨gb144, 3, none⟩ = some (.int .i64 a0_3) := (blk_cell BK144.out 3).trans rfl; have hfz24_0 := blk_frozen BK144.out 0; have hfz24_1 := blk_frozen BK144.out 1; have hfz24_2 := blk_frozen BK144.out 2; have hfz24_3 := blk_frozen BK144.out 3) | ((with_reducible refine gate_dst (N := 8) rfl ?_); refine Kd.R_lit k27 _ 27 ?hg (N := 8) ?hd (xs := ([(⟨a0_0, a0_1⟩ : S27), (⟨a0_2, a0_3⟩ : S27)] : List (S27))) (inner := [.int .i64 a0_0, .int .i64 a0_1, .int .i64 a0_2, .int .i64 a0_3]) (ok := fun _ => True) (okp := fun _ => True) ?hr ?hp (fun _ hk => hk) trivial (Below.refl _ _) (Nat.le_refl _) (by simp) ?_; (case hd => rfl); (case hg => rfl); (case hr => first | (go_simp; done) | (go_simp; rfl)); (case hp => exact (Reps.c2 (show Kd.M k27 _ _ _ (⟨a0_0, a0_1⟩ : S27) [.int .i64 a0_0, .int .i64 a0_1] from (k27_mkM _ _ _ (⟨a0_0, a0_1⟩ : S27) )) (Reps.c2 (show Kd.M k27 _ _ _ (⟨a0_2, a0_3⟩ : S27) [.int .i64 a0_2, .int .i64 a0_3] from (k27_mkM _ _ _ (⟨a0_2, a0_3⟩ : S27) )) (Reps.none _ _)))); intro v146 w25 ho26 hb hg_ hnew_; clear hg_ hnew_; (first | rw [← Ny145.out] at ho26 | (simp only [Int.reduceToNat] at ho26; rw [← Ny145.out] at ho26)); have n0_ := Aside0.mk (Kd.R_lower ho26 (below_size (by repeat (first | (with_reducible first | exact HB.out | apply below_alloc | apply pw_below_drewN | apply below_drew1 | refine below_set ?_ GE144.out) | exact HB.out)))); have n1_ := Aside0.mk (blk_below (g := gb144) (o := .cells #[.int .i64 a0_0, .int .i64 a0_1, .int .i64 a0_2, .int .i64 a0_3] 31 (0, 0)) (by (with_reducible repeat (first | refine blk_drewN ?_ _ | refine blk_drew ?_ | refine blk_alloc ?_ _)); exact BK144.out) hb); have n2_ := Aside0.mk (below_step (by repeat (first | (with_reducible first | exact HB.out | apply below_alloc | apply pw_below_drewN | apply below_drew1 | refine below_set ?_ GE144.out) | exact HB.out)) hb); clear BK144; clear HB; have HO147 := n0_; have BK144 := n1_; have HB := n2_; clear n0_ n1_ n2_; clear hb ho26; obtain ⟨Ao27, co27, eo27⟩ := Kd.R_slice HO147.out; subst eo27) | ((with_reducible refine gate_callee (f := 116) rfl ?_); refine goesL_ (some 9) rfl rfl Try.func116 (by kernel_rfl) rfl #[.slice Ao27 y145.length co27] rfl (by (try simp only [List.map_toArray, List.map_cons, List.map_nil]); first | done | rfl | (simp only [List.length_drop, List.length_take]; rfl)) ?_; (with_reducible refine (bound_check.calls k _ _ y145 t148 _ ?side1 ?side2 A2.out).mono ?_); (case side1 => repeat (first | exact (Kd.R_reads' HO147.out).2.2 | (with_reducible refine Kd.C_alloc ?_ _) | (with_reducible refine Kd.C_drewN ?_ _) | (with_reducible refine Kd.C_drew ?_))); (case side2 => exact (Kd.R_reads' HO147.out).2.1); rintro e w28 ⟨rfl, hb⟩; refine ⟨_, rfl, ?_⟩; have n0_ := Aside0.mk (Kd.R_below (by (with_reducible repeat (first | apply Kd.R_alloc | apply Kd.R_drewN | apply Kd.R_drew)); exact HO147.out) hb); have n1_ := Aside0.mk (blk_below (g := gb144) (o := .cells #[.int .i64 a0_0, .int .i64 a0_1, .int .i64 a0_2, .int .i64 a0_3] 31 (0, 0)) (by (with_reducible repeat (first | refine blk_drewN ?_ _ | refine blk_drew ?_ | refine blk_alloc ?_ _)); exact BK144.out) hb); have n2_ := Aside0.mk (below_step (by repeat (first | (with_reducible first | exact HB.out | apply below_alloc | apply pw_below_drewN | apply below_drew1 | refine below_set ?_ GE144.out) | exact HB.out)) hb); clear HO147; clear BK144; clear HB; have HO147 := n0_; have BK144 := n1_; have HB := n2_; clear n0_ n1_ n2_; (try clear hb); (try clear hb2); (try clear hk); (try clear hi)))
      have n0_ := Aside0.mk (Kd.R_drew HO147.out)
      have n1_ := Aside0.mk (blk_drew BK144.out)
      have n2_ := Aside0.mk (below_drew1 HB.out)
      clear HO147
      clear BK144
      clear HB
      have HO147 := n0_
      have BK144 := n1_
      have HB := n2_
      clear n0_ n1_ n2_
      refine start_ (n := 18) (S := fun w' => w'.cell? ⟨gb144, 0, none⟩ = some (.int .i64 a0_0) ∧ w'.cell? ⟨gb144, 1, none⟩ = some (.int .i64 a0_1) ∧ w'.cell? ⟨gb144, 2, none⟩ = some (.int .i64 a0_2) ∧ w'.cell? ⟨gb144, 3, none⟩ = some (.int .i64 a0_3)) (ds := []) #[false, false, false, false, false, false, false, false, false, false, false, false, false, false, false, false, false, false] (by kernel_rfl) rfl rfl ⟨(blk_cell BK144.out 0).trans rfl, (blk_cell BK144.out 1).trans rfl, (blk_cell BK144.out 2).trans rfl, (blk_cell BK144.out 3).trans rfl⟩ (fun hHeld => ?_); refine with_tabW bound_CheckBox.tab4 bound_CheckBox.bits4 (fun HT_ HW_ => ?_)
      generalize w28.drew = w29 at HO147 BK144 HB hHeld ⊢
      refine pure_ (i := 0) (N := some 13) (v := ?_) (a' := ?_) #[true, false, false, false, false, false, false, false, false, false, false, false, false, false, false, false, false, false] rfl rfl (any_of HT_.out (by kernel_rfl)) (fun _ _ _ h => h) (Or.inl ⟨by rfl, ?_⟩) ?_ ?_
      rotate_left
      · intro w'
        go_simp
        with_reducible rfl
      rotate_left
      · simp only [Act.put, List.setIfInBounds_toArray, List.set_cons_zero, List.set_cons_succ, i64_w, i32_w]
        rfl
      refine pure_ (i := 1) (N := some 14) (v := ?_) (a' := ?_) #[true, true, false, false, false, false, false, false, false, false, false, false, false, false, false, false, false, false] rfl rfl (any_of HT_.out (by kernel_rfl)) (fun _ _ _ h => h) (Or.inl ⟨by rfl, ?_⟩) ?_ ?_
      rotate_left
      · intro w'
        go_simp
        with_reducible rfl
      rotate_left
      · simp only [Act.put, List.setIfInBounds_toArray, List.set_cons_zero, List.set_cons_succ, i64_w, i32_w]
        rfl
      refine pure_ (i := 4) (N := some 17) (v := ?_) (a' := ?_) #[true, true, false, false, true, false, false, false, false, false, false, false, false, false, false, false, false, false] rfl rfl (any_of HT_.out (by kernel_rfl)) (fun _ _ _ h => h) (Or.inl ⟨by rfl, ?_⟩) ?_ ?_
      rotate_left
      · intro w'
        go_simp
        with_reducible rfl
      rotate_left
      · simp only [Act.put, List.setIfInBounds_toArray, List.set_cons_zero, List.set_cons_succ, i64_w, i32_w]
        rfl
      refine pure_ (i := 5) (N := some 18) (v := ?_) (a' := ?_) #[true, true, false, false, true, true, false, false, false, false, false, false, false, false, false, false, false, false] rfl rfl (any_of HT_.out (by kernel_rfl)) (fun _ _ _ h => h) (Or.inl ⟨by rfl, ?_⟩) ?_ ?_
      rotate_left
      · intro w'
        go_simp
        with_reducible rfl
      rotate_left
      · simp only [Act.put, List.setIfInBounds_toArray, List.set_cons_zero, List.set_cons_succ, i64_w, i32_w]
        rfl
      refine pure_ (i := 8) (N := some 21) (v := ?_) (a' := ?_) #[true, true, false, false, true, true, false, false, true, false, false, false, false, false, false, false, false, false] rfl rfl (any_of HT_.out (by kernel_rfl)) (fun _ _ _ h => h) (Or.inl ⟨by rfl, ?_⟩) ?_ ?_
      rotate_left
      · intro w'
        go_simp
        with_reducible rfl
      rotate_left
      · simp only [Act.put, List.setIfInBounds_toArray, List.set_cons_zero, List.set_cons_succ, i64_w, i32_w]
        rfl
      refine pure_ (i := 9) (N := some 22) (v := ?_) (a' := ?_) #[true, true, false, false, true, true, false, false, true, true, false, false, false, false, false, false, false, false] rfl rfl (any_of HT_.out (by kernel_rfl)) (fun _ _ _ h => h) (Or.inl ⟨by rfl, ?_⟩) ?_ ?_
      rotate_left
      · intro w'
        go_simp
        with_reducible rfl
      rotate_left
      · simp only [Act.put, List.setIfInBounds_toArray, List.set_cons_zero, List.set_cons_succ, i64_w, i32_w]
        rfl
      refine pure_ (i := 12) (N := some 25) (v := ?_) (a' := ?_) #[true, true, false, false, true, true, false, false, true, true, false, false, true, false, false, false, false, false] rfl rfl (any_of HT_.out (by kernel_rfl)) (fun _ _ _ h => h) (Or.inl ⟨by rfl, ?_⟩) ?_ ?_
      rotate_left
      · intro w'
        go_simp
        with_reducible rfl
      rotate_left
      · simp only [Act.put, List.setIfInBounds_toArray, List.set_cons_zero, List.set_cons_succ, i64_w, i32_w]
        rfl
      refine pure_ (i := 13) (N := some 26) (v := ?_) (a' := ?_) #[true, true, false, false, true, true, false, false, true, true, false, false, true, true, false, false, false, false] rfl rfl (any_of HT_.out (by kernel_rfl)) (fun _ _ _ h => h) (Or.inl ⟨by rfl, ?_⟩) ?_ ?_
      rotate_left
      · intro w'
        go_simp
        with_reducible rfl
      rotate_left
      · simp only [Act.put, List.setIfInBounds_toArray, List.set_cons_zero, List.set_cons_succ, i64_w, i32_w]
        rfl
      refine take_ (i := 2) (N := some 15) (v := ?_) (a' := ?_) #[true, true, true, false, true, true, false, false, true, true, false, false, true, true, false, false, false, false] rfl rfl (take_ofW HT_.out HW_.out (by kernel_rfl)) (fun _ _ _ h => h) (Or.inl ⟨by rfl, ?_⟩) hHeld ?_ ?_
      rotate_left
      · rintro w' ⟨s0, s1, s2, s3⟩
        go_simp
        with_reducible rfl
      rotate_left
      · simp only [Act.put, List.setIfInBounds_toArray, List.set_cons_zero, List.set_cons_succ, i64_w, i32_w]
        rfl
      refine take_ (i := 6) (N := some 19) (v := ?_) (a' := ?_) #[true, true, true, false, true, true, true, false, true, true, false, false, true, true, false, false, false, false] rfl rfl (take_ofW HT_.out HW_.out (by kernel_rfl)) (fun _ _ _ h => h) (Or.inl ⟨by rfl, ?_⟩) hHeld ?_ ?_
      rotate_left
      · rintro w' ⟨s0, s1, s2, s3⟩
        go_simp
        with_reducible rfl
      rotate_left
      · simp only [Act.put, List.setIfInBounds_toArray, List.set_cons_zero, List.set_cons_succ, i64_w, i32_w]
        rfl
      refine take_ (i := 10) (N := some 23) (v := ?_) (a' := ?_) #[true, true, true, false, true, true, true, false, true, true, true, false, true, true, false, false, false, false] rfl rfl (take_ofW HT_.out HW_.out (by kernel_rfl)) (fun _ _ _ h => h) (Or.inl ⟨by rfl, ?_⟩) hHeld ?_ ?_
      rotate_left
      · rintro w' ⟨s0, s1, s2, s3⟩
        go_simp
        with_reducible rfl
      rotate_left
      · simp only [Act.put, List.setIfInBounds_toArray, List.set_cons_zero, List.set_cons_succ, i64_w, i32_w]
        rfl
      refine take_ (i := 14) (N := some 27) (v := ?_) (a' := ?_) #[true, true, true, false, true, true, true, false, true, true, true, false, true, true, true, false, false, false] rfl rfl (take_ofW HT_.out HW_.out (by kernel_rfl)) (fun _ _ _ h => h) (Or.inl ⟨by rfl, ?_⟩) hHeld ?_ ?_
      rotate_left
      · rintro w' ⟨s0, s1, s2, s3⟩
        go_simp
        with_reducible rfl
      rotate_left
      · simp only [Act.put, List.setIfInBounds_toArray, List.set_cons_zero, List.set_cons_succ, i64_w, i32_w]
        rfl
      refine one_ (i := 3) (N := some 16) #[true, true, true, true, true, true, true, false, true, true, true, false, true, true, true, false, false, false] rfl rfl (one_of HT_.out (by kernel_rfl)) (by decide) (fun K hK => ?_)
      refine goes_ Try.func117 (by kernel_rfl) rfl #[.int .i64 a0_0] (by rfl) rfl rfl (by (try simp only [List.map_toArray, List.map_cons, List.map_nil]); first | done | rfl | (simp only [List.length_drop, List.length_take]; rfl)) ?_
      with_reducible refine (bound_amount.calls a0_0 t149 _ A4.out).mono ?_
      rintro e w30 ⟨rfl, hb⟩
      refine ⟨_, rfl, ?_⟩
      have n0_ := Aside0.mk (Kd.R_below (by (with_reducible repeat (first | apply Kd.R_alloc | apply Kd.R_drewN | apply Kd.R_drew)); exact HO147.out) hb)
      have n1_ := Aside0.mk (blk_below (g := gb144) (o := .cells #[.int .i64 a0_0, .int .i64 a0_1, .int .i64 a0_2, .int .i64 a0_3] 31 (0, 0)) (by (with_reducible repeat (first | refine blk_drewN ?_ _ | refine blk_drew ?_ | refine blk_alloc ?_ _)); exact BK144.out) hb)
      have n2_ := Aside0.mk (below_step (by repeat (first | (with_reducible first | exact HB.out | apply below_alloc | apply pw_below_drewN | apply below_drew1 | refine below_set ?_ GE144.out) | exact HB.out)) hb)
      clear HO147
      clear BK144
      clear HB
      have HO147 := n0_
      have BK144 := n1_
      have HB := n2_
      clear n0_ n1_ n2_
      (try clear hb)
      (try clear hb2)
      (try clear hk)
      (try clear hi)
      refine hK.out _ _ ⟨(blk_cell BK144.out 0).trans rfl, (blk_cell BK144.out 1).trans rfl, (blk_cell BK144.out 2).trans rfl, (blk_cell BK144.out 3).trans rfl⟩ (fun hHeld => ?_)
      clear hK K
      refine norm_ (a' := ?_) ?_ ?_
      rotate_left
      · show Act.put _ (some 16) _ = _
        simp only [Act.put, List.setIfInBounds_toArray, List.set_cons_zero, List.set_cons_succ, i64_w, i32_w]
        rfl
      refine one_ (i := 7) (N := some 20) #[true, true, true, true, true, true, true, true, true, true, true, false, true, true, true, false, false, false] rfl rfl (one_of HT_.out (by kernel_rfl)) (by decide) (fun K hK => ?_)
      refine goes_ Try.func117 (by kernel_rfl) rfl #[.int .i64 a0_1] (by rfl) rfl rfl (by (try simp only [List.map_toArray, List.map_cons, List.map_nil]); first | done | rfl | (simp only [List.length_drop, List.length_take]; rfl)) ?_
      with_reducible refine (bound_amount.calls a0_1 t150 _ A5.out).mono ?_
      rintro e w31 ⟨rfl, hb⟩
      refine ⟨_, rfl, ?_⟩
      have n0_ := Aside0.mk (Kd.R_below (by (with_reducible repeat (first | apply Kd.R_alloc | apply Kd.R_drewN | apply Kd.R_drew)); exact HO147.out) hb)
      have n1_ := Aside0.mk (blk_below (g := gb144) (o := .cells #[.int .i64 a0_0, .int .i64 a0_1, .int .i64 a0_2, .int .i64 a0_3] 31 (0, 0)) (by (with_reducible repeat (first | refine blk_drewN ?_ _ | refine blk_drew ?_ | refine blk_alloc ?_ _)); exact BK144.out) hb)
      have n2_ := Aside0.mk (below_step (by repeat (first | (with_reducible first | exact HB.out | apply below_alloc | apply pw_below_drewN | apply below_drew1 | refine below_set ?_ GE144.out) | exact HB.out)) hb)
      clear HO147
      clear BK144
      clear HB
      have HO147 := n0_
      have BK144 := n1_
      have HB := n2_
      clear n0_ n1_ n2_
      (try clear hb)
      (try clear hb2)
      (try clear hk)
      (try clear hi)
      refine hK.out _ _ ⟨(blk_cell BK144.out 0).trans rfl, (blk_cell BK144.out 1).trans rfl, (blk_cell BK144.out 2).trans rfl, (blk_cell BK144.out 3).trans rfl⟩ (fun hHeld => ?_)
      clear hK K
      refine norm_ (a' := ?_) ?_ ?_
      rotate_left
      · show Act.put _ (some 20) _ = _
        simp only [Act.put, List.setIfInBounds_toArray, List.set_cons_zero, List.set_cons_succ, i64_w, i32_w]
        rfl
      refine one_ (i := 11) (N := some 24) #[true, true, true, true, true, true, true, true, true, true, true, true, true, true, true, false, false, false] rfl rfl (one_of HT_.out (by kernel_rfl)) (by decide) (fun K hK => ?_)
      refine goes_ Try.func117 (by kernel_rfl) rfl #[.int .i64 a0_2] (by rfl) rfl rfl (by (try simp only [List.map_toArray, List.map_cons, List.map_nil]); first | done | rfl | (simp only [List.length_drop, List.length_take]; rfl)) ?_
      with_reducible refine (bound_amount.calls a0_2 t151 _ A6.out).mono ?_
      rintro e w32 ⟨rfl, hb⟩
      refine ⟨_, rfl, ?_⟩
      have n0_ := Aside0.mk (Kd.R_below (by (with_reducible repeat (first | apply Kd.R_alloc | apply Kd.R_drewN | apply Kd.R_drew)); exact HO147.out) hb)
      have n1_ := Aside0.mk (blk_below (g := gb144) (o := .cells #[.int .i64 a0_0, .int .i64 a0_1, .int .i64 a0_2, .int .i64 a0_3] 31 (0, 0)) (by (with_reducible repeat (first | refine blk_drewN ?_ _ | refine blk_drew ?_ | refine blk_alloc ?_ _)); exact BK144.out) hb)
      have n2_ := Aside0.mk (below_step (by repeat (first | (with_reducible first | exact HB.out | apply below_alloc | apply pw_below_drewN | apply below_drew1 | refine below_set ?_ GE144.out) | exact HB.out)) hb)
      clear HO147
      clear BK144
      clear HB
      have HO147 := n0_
      have BK144 := n1_
      have HB := n2_
      clear n0_ n1_ n2_
      (try clear hb)
      (try clear hb2)
      (try clear hk)
      (try clear hi)
      refine hK.out _ _ ⟨(blk_cell BK144.out 0).trans rfl, (blk_cell BK144.out 1).trans rfl, (blk_cell BK144.out 2).trans rfl, (blk_cell BK144.out 3).trans rfl⟩ (fun hHeld => ?_)
      clear hK K
      refine norm_ (a' := ?_) ?_ ?_
      rotate_left
      · show Act.put _ (some 24) _ = _
        simp only [Act.put, List.setIfInBounds_toArray, List.set_cons_zero, List.set_cons_succ, i64_w, i32_w]
        rfl
      refine one_ (i := 15) (N := some 28) #[true, true, true, true, true, true, true, true, true, true, true, true, true, true, true, true, false, false] rfl rfl (one_of HT_.out (by kernel_rfl)) (by decide) (fun K hK => ?_)
      refine goes_ Try.func117 (by kernel_rfl) rfl #[.int .i64 a0_3] (by rfl) rfl rfl (by (try simp only [List.map_toArray, List.map_cons, List.map_nil]); first | done | rfl | (simp only [List.length_drop, List.length_take]; rfl)) ?_
      with_reducible refine (bound_amount.calls a0_3 t152 _ A7.out).mono ?_
      rintro e w33 ⟨rfl, hb⟩
      refine ⟨_, rfl, ?_⟩
      have n0_ := Aside0.mk (Kd.R_below (by (with_reducible repeat (first | apply Kd.R_alloc | apply Kd.R_drewN | apply Kd.R_drew)); exact HO147.out) hb)
      have n1_ := Aside0.mk (blk_below (g := gb144) (o := .cells #[.int .i64 a0_0, .int .i64 a0_1, .int .i64 a0_2, .int .i64 a0_3] 31 (0, 0)) (by (with_reducible repeat (first | refine blk_drewN ?_ _ | refine blk_drew ?_ | refine blk_alloc ?_ _)); exact BK144.out) hb)
      have n2_ := Aside0.mk (below_step (by repeat (first | (with_reducible first | exact HB.out | apply below_alloc | apply pw_below_drewN | apply below_drew1 | refine below_set ?_ GE144.out) | exact HB.out)) hb)
      clear HO147
      clear BK144
      clear HB
      have HO147 := n0_
      have BK144 := n1_
      have HB := n2_
      clear n0_ n1_ n2_
      (try clear hb)
      (try clear hb2)
      (try clear hk)
      (try clear hi)
      refine hK.out _ _ ⟨(blk_cell BK144.out 0).trans rfl, (blk_cell BK144.out 1).trans rfl, (blk_cell BK144.out 2).trans rfl, (blk_cell BK144.out 3).trans rfl⟩ (fun hHeld => ?_)
      clear hK K
      refine norm_ (a' := ?_) ?_ ?_
      rotate_left
      · show Act.put _ (some 28) _ = _
        simp only [Act.put, List.setIfInBounds_toArray, List.set_cons_zero, List.set_cons_succ, i64_w, i32_w]
        rfl
      refine pure_ (i := 16) (N := some 29) (v := ?_) (a' := ?_) #[true, true, true, true, true, true, true, true, true, true, true, true, true, true, true, true, true, false] rfl rfl (any_of HT_.out (by kernel_rfl)) (fun _ _ _ h => h) (Or.inl ⟨by rfl, ?_⟩) ?_ ?_
      rotate_left
      · intro w'
        go_simp
        with_reducible rfl
      rotate_left
      · simp only [Act.put, List.setIfInBounds_toArray, List.set_cons_zero, List.set_cons_succ, i64_w, i32_w]
        rfl
      refine pure_ (i := 17) (N := some 30) (v := ?_) (a' := ?_) #[true, true, true, true, true, true, true, true, true, true, true, true, true, true, true, true, true, true] rfl rfl (any_of HT_.out (by kernel_rfl)) (fun _ _ _ h => h) (Or.inl ⟨by rfl, ?_⟩) ?_ ?_
      rotate_left
      · intro w'
        go_simp
        with_reducible rfl
      rotate_left
      · simp only [Act.put, List.setIfInBounds_toArray, List.set_cons_zero, List.set_cons_succ, i64_w, i32_w]
        rfl
      refine done_ (done_of HT_.out (by kernel_rfl)) ?_
      try go_wp2
      go_ret
      exact ⟨by first | rfl | (simp [errW_none, errW_some] <;> rfl) | (simp only [← hji8, ← hji9, ← hji10]; first | rfl | (simp [errW_none, errW_some] <;> rfl)) | (simp [*, errW_none, errW_some] <;> rfl), by repeat (first | (with_reducible first | exact HB.out | apply below_alloc | apply pw_below_drewN | apply below_drew1 | refine below_set ?_ GE144.out) | exact HB.out)⟩
  · rw [if_neg c3] at H
    have c3b0 : (t148 == 0) = false := beq_eq_false_iff_ne.mpr c3
    have c3b1 : (t148 != 0) = true := bne_iff_ne.mpr c3
    obtain rfl := Option.some.inj H
    go_enter Try.func67, Try.ntmps67
    go_wp2_with (first | ((with_reducible refine gate_dst (N := 1) rfl ?_); refine box_event ?hg (N := 1) ?hd (cs := #[.int .i64 a0_0, .int .i64 a0_1, .int .i64 a0_2, .int .i64 a0_3]) (t := 31) ?hr ?_; (case hd => rfl); (case hg => rfl); (case hr => first | (go_simp; done) | (go_simp; rfl)); intro gb144 hg w34 hbox hb; have n0_ := Aside0.mk (below_step (by repeat (first | (with_reducible first | exact HB.out | apply below_alloc | apply pw_below_drewN | apply below_drew1) | exact HB.out)) hb); have n1_ := Aside0.mk (hbox); have n2_ := Aside0.mk ((by rw [hg]; exact (below_size (by repeat (first | (with_reducible first | exact HB.out | apply below_alloc | apply pw_below_drewN | apply below_drew1) | exact HB.out))) : w.heap.size ≤ gb144)); have n3_ := Aside0.mk ((by rw [hg]; exact (below_size (by repeat (first | (with_reducible first | exact HB.out | apply below_alloc | apply pw_below_drewN | apply below_drew1) | exact HB.out))) : w.heap.size ≤ gb144)); clear HB; have HB := n0_; have BK144 := n1_; have GW144 := n2_; have GE144 := n3_; clear n0_ n1_ n2_ n3_; clear hb hbox hg; have hcz35_0 : w34.cell? ⟨gb144, 0, none⟩ = some (.int .i64 a0_0) := (blk_cell BK144.out 0).trans rfl; have hcz35_1 : w34.cell? ⟨gb144, 1, none⟩ = some (.int .i64 a0_1) := (blk_cell BK144.out 1).trans rfl; have hcz35_2 : w34.cell? ⟨gb144, 2, none⟩ = some (.int .i64 a0_2) := (blk_cell BK144.out 2).trans rfl; have hcz35_3 : w34.cell? ⟨gb144, 3, none⟩ = some (.int .i64 a0_3) := (blk_cell BK144.out 3).trans rfl; have hfz35_0 := blk_frozen BK144.out 0; have hfz35_1 := blk_frozen BK144.out 1; have hfz35_2 := blk_frozen BK144.out 2; have hfz35_3 := blk_frozen BK144.out 3) | ((with_reducible refine gate_dst (N := 8) rfl ?_); refine Kd.R_lit k27 _ 27 ?hg (N := 8) ?hd (xs := ([(⟨a0_0, a0_1⟩ : S27), (⟨a0_2, a0_3⟩ : S27)] : List (S27))) (inner := [.int .i64 a0_0, .int .i64 a0_1, .int .i64 a0_2, .int .i64 a0_3]) (ok := fun _ => True) (okp := fun _ => True) ?hr ?hp (fun _ hk => hk) trivial (Below.refl _ _) (Nat.le_refl _) (by simp) ?_; (case hd => rfl); (case hg => rfl); (case hr => first | (go_simp; done) | (go_simp; rfl)); (case hp => exact (Reps.c2 (show Kd.M k27 _ _ _ (⟨a0_0, a0_1⟩ : S27) [.int .i64 a0_0, .int .i64 a0_1] from (k27_mkM _ _ _ (⟨a0_0, a0_1⟩ : S27) )) (Reps.c2 (show Kd.M k27 _ _ _ (⟨a0_2, a0_3⟩ : S27) [.int .i64 a0_2, .int .i64 a0_3] from (k27_mkM _ _ _ (⟨a0_2, a0_3⟩ : S27) )) (Reps.none _ _)))); intro v146 w36 ho37 hb hg_ hnew_; clear hg_ hnew_; (first | rw [← Ny145.out] at ho37 | (simp only [Int.reduceToNat] at ho37; rw [← Ny145.out] at ho37)); have n0_ := Aside0.mk (Kd.R_lower ho37 (below_size (by repeat (first | (with_reducible first | exact HB.out | apply below_alloc | apply pw_below_drewN | apply below_drew1 | refine below_set ?_ GE144.out) | exact HB.out)))); have n1_ := Aside0.mk (blk_below (g := gb144) (o := .cells #[.int .i64 a0_0, .int .i64 a0_1, .int .i64 a0_2, .int .i64 a0_3] 31 (0, 0)) (by (with_reducible repeat (first | refine blk_drewN ?_ _ | refine blk_drew ?_ | refine blk_alloc ?_ _)); exact BK144.out) hb); have n2_ := Aside0.mk (below_step (by repeat (first | (with_reducible first | exact HB.out | apply below_alloc | apply pw_below_drewN | apply below_drew1 | refine below_set ?_ GE144.out) | exact HB.out)) hb); clear BK144; clear HB; have HO147 := n0_; have BK144 := n1_; have HB := n2_; clear n0_ n1_ n2_; clear hb ho37; obtain ⟨Ao38, co38, eo38⟩ := Kd.R_slice HO147.out; subst eo38) | ((with_reducible refine gate_callee (f := 116) rfl ?_); refine goesL_ (some 9) rfl rfl Try.func116 (by kernel_rfl) rfl #[.slice Ao38 y145.length co38] rfl (by (try simp only [List.map_toArray, List.map_cons, List.map_nil]); first | done | rfl | (simp only [List.length_drop, List.length_take]; rfl)) ?_; (with_reducible refine (bound_check.calls k _ _ y145 t148 _ ?side1 ?side2 A2.out).mono ?_); (case side1 => repeat (first | exact (Kd.R_reads' HO147.out).2.2 | (with_reducible refine Kd.C_alloc ?_ _) | (with_reducible refine Kd.C_drewN ?_ _) | (with_reducible refine Kd.C_drew ?_))); (case side2 => exact (Kd.R_reads' HO147.out).2.1); rintro e w39 ⟨rfl, hb⟩; refine ⟨_, rfl, ?_⟩; have n0_ := Aside0.mk (Kd.R_below (by (with_reducible repeat (first | apply Kd.R_alloc | apply Kd.R_drewN | apply Kd.R_drew)); exact HO147.out) hb); have n1_ := Aside0.mk (blk_below (g := gb144) (o := .cells #[.int .i64 a0_0, .int .i64 a0_1, .int .i64 a0_2, .int .i64 a0_3] 31 (0, 0)) (by (with_reducible repeat (first | refine blk_drewN ?_ _ | refine blk_drew ?_ | refine blk_alloc ?_ _)); exact BK144.out) hb); have n2_ := Aside0.mk (below_step (by repeat (first | (with_reducible first | exact HB.out | apply below_alloc | apply pw_below_drewN | apply below_drew1 | refine below_set ?_ GE144.out) | exact HB.out)) hb); clear HO147; clear BK144; clear HB; have HO147 := n0_; have BK144 := n1_; have HB := n2_; clear n0_ n1_ n2_; (try clear hb); (try clear hb2); (try clear hk); (try clear hi)))
    go_ret
    exact ⟨by first | rfl | (simp [errW_none, errW_some] <;> rfl) | (simp [*, errW_none, errW_some] <;> rfl), by repeat (first | (with_reducible first | exact HB.out | apply below_alloc | apply pw_below_drewN | apply below_drew1 | refine below_set ?_ GE144.out) | exact HB.out)⟩

end Go.Proofs.Ytmhaiihjfgfaoaa.Pr
end
section
-- PRINTED by print.py (a twelfth state) out of the translation. Not trusted: Lean checks it.
namespace Go.Proofs.Ytmhaiihjfgfaoaa.Pr
open Go.RowKit Go.Proofs.YtmhaiihjfgfaoaaW.PrintWords Go.Proofs.YtmhaiihjfgfaoaaW.PrintLast Go.Proofs.YtmhaiihjfgfaoaaW.PrintMore
attribute [local go_sem] max2_int min2_int max_two min_two max_four
set_option linter.unusedVariables false
set_option linter.unusedSimpArgs false

/-! ### glider_checkPlace: function 114 -/
def glider_checkPlace.f (k : Nat) (a0_0 : Int) (a0_1 : Int) (a0_2 : Int) (a0_3 : Int) (a1 : Int) : Option (Int) := (bound_CheckBox.f k a0_0 a0_1 a0_2 a0_3).bind fun t154 => (if t154 = 0 then ((glider_between.f a1 0 1073741824).bind fun t155 => (if t155 = true then (some 0) else (some 3))) else (some t154))
set_option maxHeartbeats 8000000 in
set_option maxRecDepth 100000 in
theorem glider_checkPlace.calls (k : Nat) (a0_0 : Int) (a0_1 : Int) (a0_2 : Int) (a0_3 : Int) (a1 : Int) (r : Int) (w : World) (h : glider_checkPlace.f k a0_0 a0_1 a0_2 a0_3 a1 = some r) :
    Calls Try.prog 114 #[.agg #[.int .i64 a0_0, .int .i64 a0_1, .int .i64 a0_2, .int .i64 a0_3], .int .i64 a1] w fun e w' => e = .returned (.int .i64 r) ∧ Below w.heap.size w w' := by
  have hu31 := Try.underlying31
  have HB := Aside0.mk (Below.refl w.heap.size w)
  have H : ((bound_CheckBox.f k a0_0 a0_1 a0_2 a0_3).bind fun t154 => (if t154 = 0 then ((glider_between.f a1 0 1073741824).bind fun t155 => (if t155 = true then (some 0) else (some 3))) else (some t154))) = some r := h
  clear h
  replace H := Option.bind_eq_some_iff.mp H
  obtain ⟨t154, A30, H⟩ := H
  replace H : (if t154 = 0 then ((glider_between.f a1 0 1073741824).bind fun t155 => (if t155 = true then (some 0) else (some 3))) else (some t154)) = some r := H
  have A3 := Aside0.mk A30
  clear A30
  by_cases c4 : t154 = 0
  · rw [if_pos c4] at H
    have c4b0 : (t154 == 0) = true := beq_iff_eq.mpr c4
    have c4b1 : (t154 != 0) = false := bne_eq_false_iff_eq.mpr c4
    clear c4
    replace H := Option.bind_eq_some_iff.mp H
    obtain ⟨t155, A50, H⟩ := H
    replace H : (if t155 = true then (some 0) else (some 3)) = some r := H
    have A5 := Aside0.mk A50
    clear A50
    by_cases c6 : t155 = true
    · subst c6
      have H1 : (some 0) = some r := by rw [if_pos rfl] at H; exact H
      clear H
      have H := H1
      clear H1
      obtain rfl := Option.some.inj H
      go_enter Try.func114, Try.ntmps114
      go_wp2_with (first | ((with_reducible refine gate_dst (N := 2) rfl ?_); refine box_event ?hg (N := 2) ?hd (cs := #[.int .i64 a0_0, .int .i64 a0_1, .int .i64 a0_2, .int .i64 a0_3]) (t := 31) ?hr ?_; (case hd => rfl); (case hg => rfl); (case hr => first | (go_simp; done) | (go_simp; rfl)); intro gb153 hg w7 hbox hb; have n0_ := Aside0.mk (below_step (by repeat (first | (with_reducible first | exact HB.out | apply below_alloc | apply pw_below_drewN | apply below_drew1) | exact HB.out)) hb); have n1_ := Aside0.mk (hbox); have n2_ := Aside0.mk ((by rw [hg]; exact (below_size (by repeat (first | (with_reducible first | exact HB.out | apply below_alloc | apply pw_below_drewN | apply below_drew1) | exact HB.out))) : w.heap.size ≤ gb153)); have n3_ := Aside0.mk ((by rw [hg]; exact (below_size (by repeat (first | (with_reducible first | exact HB.out | apply below_alloc | apply pw_below_drewN | apply below_drew1) | exact HB.out))) : w.heap.size ≤ gb153)); clear HB; have HB := n0_; have BK153 := n1_; have GW153 := n2_; have GE153 := n3_; clear n0_ n1_ n2_ n3_; clear hb hbox hg; have hcz8_0 : w7.cell? ⟨gb153, 0, none⟩ = some (.int .i64 a0_0) := (blk_cell BK153.out 0).trans rfl; have hcz8_1 : w7.cell? ⟨gb153, 1, none⟩ = some (.int .i64 a0_1) := (blk_cell BK153.out 1).trans rfl; have hcz8_2 : w7.cell? ⟨gb153, 2, none⟩ = some (.int .i64 a0_2) := (blk_cell BK153.out 2).trans rfl; have hcz8_3 : w7.cell? ⟨gb153, 3, none⟩ = some (.int .i64 a0_3) := (blk_cell BK153.out 3).trans rfl; have hfz8_0 := blk_frozen BK153.out 0; have hfz8_1 := blk_frozen BK153.out 1; have hfz8_2 := blk_frozen BK153.out 2; have hfz8_3 := blk_frozen BK153.out 3) | ((with_reducible refine gate_callee (f := 67) rfl ?_); refine goesL_ (some 7) rfl rfl Try.func67 (by kernel_rfl) rfl #[.agg #[.int .i64 a0_0, .int .i64 a0_1, .int .i64 a0_2, .int .i64 a0_3]] rfl (by (try simp only [List.map_toArray, List.map_cons, List.map_nil]); first | done | rfl | (simp only [List.length_drop, List.length_take]; rfl)) ?_; (with_reducible refine (bound_CheckBox.calls k a0_0 a0_1 a0_2 a0_3 t154 _ A3.out).mono ?_); rintro e w9 ⟨rfl, hb⟩; refine ⟨_, rfl, ?_⟩; have n0_ := Aside0.mk (blk_below (g := gb153) (o := .cells #[.int .i64 a0_0, .int .i64 a0_1, .int .i64 a0_2, .int .i64 a0_3] 31 (0, 0)) (by (with_reducible repeat (first | refine blk_drewN ?_ _ | refine blk_drew ?_ | refine blk_alloc ?_ _)); exact BK153.out) hb); have n1_ := Aside0.mk (below_step (by repeat (first | (with_reducible first | exact HB.out | apply below_alloc | apply pw_below_drewN | apply below_drew1 | refine below_set ?_ GE153.out) | exact HB.out)) hb); clear BK153; clear HB; have BK153 := n0_; have HB := n1_; clear n0_ n1_; (try clear hb); (try clear hb2); (try clear hk); (try clear hi)) | ((with_reducible refine gate_callee (f := 74) rfl ?_); refine goesL_ (some 12) rfl rfl Try.func74 (by kernel_rfl) rfl #[.int .i64 a1, .int .i64 0, .int .i64 1073741824] rfl (by (try simp only [List.map_toArray, List.map_cons, List.map_nil]); first | done | rfl | (simp only [List.length_drop, List.length_take]; rfl)) ?_; (with_reducible refine (glider_between.calls a1 0 1073741824 true _ A5.out).mono ?_); rintro e w' ⟨rfl, ⟨nd, rfl⟩⟩; refine ⟨_, rfl, ?_⟩))
      go_ret
      exact ⟨by first | rfl | (simp [errW_none, errW_some] <;> rfl) | (simp [*, errW_none, errW_some] <;> rfl), by repeat (first | (with_reducible first | exact HB.out | apply below_alloc | apply pw_below_drewN | apply below_drew1 | refine below_set ?_ GE153.out) | exact HB.out)⟩
    · replace c6 := Bool.eq_false_iff.mpr c6
      subst c6
      have H1 : (some 3) = some r := by rw [if_neg (show ¬ (false = true) by decide)] at H; exact H
      clear H
      have H := H1
      clear H1
      obtain rfl := Option.some.inj H
      go_enter Try.func114, Try.ntmps114
      go_wp2_with (first | ((with_reducible refine gate_dst (N := 2) rfl ?_); refine box_event ?hg (N := 2) ?hd (cs := #[.int .i64 a0_0, .int .i64 a0_1, .int .i64 a0_2, .int .i64 a0_3]) (t := 31) ?hr ?_; (case hd => rfl); (case hg => rfl); (case hr => first | (go_simp; done) | (go_simp; rfl)); intro gb153 hg w10 hbox hb; have n0_ := Aside0.mk (below_step (by repeat (first | (with_reducible first | exact HB.out | apply below_alloc | apply pw_below_drewN | apply below_drew1) | exact HB.out)) hb); have n1_ := Aside0.mk (hbox); have n2_ := Aside0.mk ((by rw [hg]; exact (below_size (by repeat (first | (with_reducible first | exact HB.out | apply below_alloc | apply pw_below_drewN | apply below_drew1) | exact HB.out))) : w.heap.size ≤ gb153)); have n3_ := Aside0.mk ((by rw [hg]; exact (below_size (by repeat (first | (with_reducible first | exact HB.out | apply below_alloc | apply pw_below_drewN | apply below_drew1) | exact HB.out))) : w.heap.size ≤ gb153)); clear HB; have HB := n0_; have BK153 := n1_; have GW153 := n2_; have GE153 := n3_; clear n0_ n1_ n2_ n3_; clear hb hbox hg; have hcz11_0 : w10.cell? ⟨gb153, 0, none⟩ = some (.int .i64 a0_0) := (blk_cell BK153.out 0).trans rfl; have hcz11_1 : w10.cell? ⟨gb153, 1, none⟩ = some (.int .i64 a0_1) := (blk_cell BK153.out 1).trans rfl; have hcz11_2 : w10.cell? ⟨gb153, 2, none⟩ = some (.int .i64 a0_2) := (blk_cell BK153.out 2).trans rfl; have hcz11_3 : w10.cell? ⟨gb153, 3, none⟩ = some (.int .i64 a0_3) := (blk_cell BK153.out 3).trans rfl; have hfz11_0 := blk_frozen BK153.out 0; have hfz11_1 := blk_frozen BK153.out 1; have hfz11_2 := blk_frozen BK153.out 2; have hfz11_3 := blk_frozen BK153.out 3) | ((with_reducible refine gate_callee (f := 67) rfl ?_); refine goesL_ (some 7) rfl rfl Try.func67 (by kernel_rfl) rfl #[.agg #[.int .i64 a0_0, .int .i64 a0_1, .int .i64 a0_2, .int .i64 a0_3]] rfl (by (try simp only [List.map_toArray, List.map_cons, List.map_nil]); first | done | rfl | (simp only [List.length_drop, List.length_take]; rfl)) ?_; (with_reducible refine (bound_CheckBox.calls k a0_0 a0_1 a0_2 a0_3 t154 _ A3.out).mono ?_); rintro e w12 ⟨rfl, hb⟩; refine ⟨_, rfl, ?_⟩; have n0_ := Aside0.mk (blk_below (g := gb153) (o := .cells #[.int .i64 a0_0, .int .i64 a0_1, .int .i64 a0_2, .int .i64 a0_3] 31 (0, 0)) (by (with_reducible repeat (first | refine blk_drewN ?_ _ | refine blk_drew ?_ | refine blk_alloc ?_ _)); exact BK153.out) hb); have n1_ := Aside0.mk (below_step (by repeat (first | (with_reducible first | exact HB.out | apply below_alloc | apply pw_below_drewN | apply below_drew1 | refine below_set ?_ GE153.out) | exact HB.out)) hb); clear BK153; clear HB; have BK153 := n0_; have HB := n1_; clear n0_ n1_; (try clear hb); (try clear hb2); (try clear hk); (try clear hi)) | ((with_reducible refine gate_callee (f := 74) rfl ?_); refine goesL_ (some 12) rfl rfl Try.func74 (by kernel_rfl) rfl #[.int .i64 a1, .int .i64 0, .int .i64 1073741824] rfl (by (try simp only [List.map_toArray, List.map_cons, List.map_nil]); first | done | rfl | (simp only [List.length_drop, List.length_take]; rfl)) ?_; (with_reducible refine (glider_between.calls a1 0 1073741824 false _ A5.out).mono ?_); rintro e w' ⟨rfl, ⟨nd, rfl⟩⟩; refine ⟨_, rfl, ?_⟩))
      go_ret
      exact ⟨by first | rfl | (simp [errW_none, errW_some] <;> rfl) | (simp [*, errW_none, errW_some] <;> rfl), by repeat (first | (with_reducible first | exact HB.out | apply below_alloc | apply pw_below_drewN | apply below_drew1 | refine below_set ?_ GE153.out) | exact HB.out)⟩
  · rw [if_neg c4] at H
    have c4b0 : (t154 == 0) = false := beq_eq_false_iff_ne.mpr c4
    have c4b1 : (t154 != 0) = true := bne_iff_ne.mpr c4
    obtain rfl := Option.some.inj H
    go_enter Try.func114, Try.ntmps114
    go_wp2_with (first | ((with_reducible refine gate_dst (N := 2) rfl ?_); refine box_event ?hg (N := 2) ?hd (cs := #[.int .i64 a0_0, .int .i64 a0_1, .int .i64 a0_2, .int .i64 a0_3]) (t := 31) ?hr ?_; (case hd => rfl); (case hg => rfl); (case hr => first | (go_simp; done) | (go_simp; rfl)); intro gb153 hg w13 hbox hb; have n0_ := Aside0.mk (below_step (by repeat (first | (with_reducible first | exact HB.out | apply below_alloc | apply pw_below_drewN | apply below_drew1) | exact HB.out)) hb); have n1_ := Aside0.mk (hbox); have n2_ := Aside0.mk ((by rw [hg]; exact (below_size (by repeat (first | (with_reducible first | exact HB.out | apply below_alloc | apply pw_below_drewN | apply below_drew1) | exact HB.out))) : w.heap.size ≤ gb153)); have n3_ := Aside0.mk ((by rw [hg]; exact (below_size (by repeat (first | (with_reducible first | exact HB.out | apply below_alloc | apply pw_below_drewN | apply below_drew1) | exact HB.out))) : w.heap.size ≤ gb153)); clear HB; have HB := n0_; have BK153 := n1_; have GW153 := n2_; have GE153 := n3_; clear n0_ n1_ n2_ n3_; clear hb hbox hg; have hcz14_0 : w13.cell? ⟨gb153, 0, none⟩ = some (.int .i64 a0_0) := (blk_cell BK153.out 0).trans rfl; have hcz14_1 : w13.cell? ⟨gb153, 1, none⟩ = some (.int .i64 a0_1) := (blk_cell BK153.out 1).trans rfl; have hcz14_2 : w13.cell? ⟨gb153, 2, none⟩ = some (.int .i64 a0_2) := (blk_cell BK153.out 2).trans rfl; have hcz14_3 : w13.cell? ⟨gb153, 3, none⟩ = some (.int .i64 a0_3) := (blk_cell BK153.out 3).trans rfl; have hfz14_0 := blk_frozen BK153.out 0; have hfz14_1 := blk_frozen BK153.out 1; have hfz14_2 := blk_frozen BK153.out 2; have hfz14_3 := blk_frozen BK153.out 3) | ((with_reducible refine gate_callee (f := 67) rfl ?_); refine goesL_ (some 7) rfl rfl Try.func67 (by kernel_rfl) rfl #[.agg #[.int .i64 a0_0, .int .i64 a0_1, .int .i64 a0_2, .int .i64 a0_3]] rfl (by (try simp only [List.map_toArray, List.map_cons, List.map_nil]); first | done | rfl | (simp only [List.length_drop, List.length_take]; rfl)) ?_; (with_reducible refine (bound_CheckBox.calls k a0_0 a0_1 a0_2 a0_3 t154 _ A3.out).mono ?_); rintro e w15 ⟨rfl, hb⟩; refine ⟨_, rfl, ?_⟩; have n0_ := Aside0.mk (blk_below (g := gb153) (o := .cells #[.int .i64 a0_0, .int .i64 a0_1, .int .i64 a0_2, .int .i64 a0_3] 31 (0, 0)) (by (with_reducible repeat (first | refine blk_drewN ?_ _ | refine blk_drew ?_ | refine blk_alloc ?_ _)); exact BK153.out) hb); have n1_ := Aside0.mk (below_step (by repeat (first | (with_reducible first | exact HB.out | apply below_alloc | apply pw_below_drewN | apply below_drew1 | refine below_set ?_ GE153.out) | exact HB.out)) hb); clear BK153; clear HB; have BK153 := n0_; have HB := n1_; clear n0_ n1_; (try clear hb); (try clear hb2); (try clear hk); (try clear hi)))
    go_ret
    exact ⟨by first | rfl | (simp [errW_none, errW_some] <;> rfl) | (simp [*, errW_none, errW_some] <;> rfl), by repeat (first | (with_reducible first | exact HB.out | apply below_alloc | apply pw_below_drewN | apply below_drew1 | refine below_set ?_ GE153.out) | exact HB.out)⟩

end Go.Proofs.Ytmhaiihjfgfaoaa.Pr
end
section
-- PRINTED by print.py (a twelfth state) out of the translation. Not trusted: Lean checks it.
namespace Go.Proofs.Ytmhaiihjfgfaoaa.Pr
open Go.RowKit Go.Proofs.YtmhaiihjfgfaoaaW.PrintWords Go.Proofs.YtmhaiihjfgfaoaaW.PrintLast Go.Proofs.YtmhaiihjfgfaoaaW.PrintMore
attribute [local go_sem] max2_int min2_int max_two min_two max_four
set_option linter.unusedVariables false
set_option linter.unusedSimpArgs false

/-! ### glider_checkCourses: function 65 -/
def glider_checkCourses.l0 : Nat → Int → List (S33) → Int → Int → Option (Int)
  | 0, _, _, _, _ => none
  | k + 1, x1, x10, x11, x12 => if x12 < x11 then (if 0 ≤ x12 then (if x12 < (x10.length : Int) then (if ((rd_T33 x10 x12).f0) < 0 then (some 2) else (if ((rd_T33 x10 x12).f0) ≥ 9 then (some 2) else (if ((rd_T33 x10 x12).f1) < 0 then (some 2) else (if x1 ≥ 0 then (if ((rd_T33 x10 x12).f1) ≥ x1 then (some 2) else (glider_checkCourses.l0 k x1 x10 x11 (wrap64 (x12 + 1)))) else (glider_checkCourses.l0 k x1 x10 x11 (wrap64 (x12 + 1))))))) else (none)) else (none)) else (some 0)
def glider_checkCourses.f (k : Nat) (l0 : List (S33)) (a1 : Int) : Option (Int) := if (l0.length : Int) > 64 then (some 6) else (glider_checkCourses.l0 k a1 l0 (l0.length : Int) 0)
theorem glider_checkCourses.mono_l : ∀ k, (∀ y0 y1 y2 y3, LeO (glider_checkCourses.l0 k y0 y1 y2 y3) (glider_checkCourses.l0 (k + 1) y0 y1 y2 y3))
  | 0 => fun _ _ _ _ r h => by simp [glider_checkCourses.l0] at h
  | k + 1 => by
    have ih0 := glider_checkCourses.mono_l k
    · intro y0 y1 y2 y3
      unfold glider_checkCourses.l0
      repeat' first
      | (with_reducible exact ih0 _ _ _ _)
      | (with_reducible exact LeO.refl _)
      | (with_reducible exact LeO.none _)
      | (with_reducible refine LeO.ite ?_ ?_)
      | (with_reducible refine LeO.bind ?_ (fun _ => ?_))
      | exact ih0 _ _ _ _
      | exact LeO.none _
      | refine LeO.ite ?_ ?_
      | refine LeO.bind ?_ (fun _ => ?_)
theorem glider_checkCourses.mono : ∀ a0 a1 k, LeO (glider_checkCourses.f k a0 a1) (glider_checkCourses.f (k + 1) a0 a1) := by
  intro a0 a1 k
  have ih0 := glider_checkCourses.mono_l k
  unfold glider_checkCourses.f
  repeat' first
      | (with_reducible exact ih0 _ _ _ _)
      | (with_reducible exact LeO.refl _)
      | (with_reducible exact LeO.none _)
      | (with_reducible refine LeO.ite ?_ ?_)
      | (with_reducible refine LeO.bind ?_ (fun _ => ?_))
      | exact ih0 _ _ _ _
      | exact LeO.none _
      | refine LeO.ite ?_ ?_
      | refine LeO.bind ?_ (fun _ => ?_)
set_option maxHeartbeats 8000000 in
set_option maxRecDepth 100000 in
theorem glider_checkCourses.calls (k : Nat) (A0 : Option Addr) (c0 : Nat) (l0 : List (S33)) (a1 : Int) (r : Int) (w : World) (hr0 : Kd.C k33 w A0 l0.length l0) (hc0 : l0.length ≤ c0) (h : glider_checkCourses.f k l0 a1 = some r) :
    Calls Try.prog 65 #[.slice A0 l0.length c0, .int .i64 a1] w fun e w' => e = .returned (.int .i64 r) ∧ Below w.heap.size w w' := by
  have hu33 := Try.underlying33
  have HR0 := Aside0.mk hr0
  have HC0 := Aside0.mk hc0
  clear hr0 hc0
  have HB := Aside0.mk (Below.refl w.heap.size w)
  have H : (if (l0.length : Int) > 64 then (some 6) else (glider_checkCourses.l0 k a1 l0 (l0.length : Int) 0)) = some r := h
  clear h
  by_cases c3 : (l0.length : Int) > 64
  · rw [if_pos c3] at H
    have c3b0 : decide (64 < (l0.length : Int)) = true := decide_eq_true c3
    have c3b1 : decide (64 < l0.length) = true := decide_eq_true (by omega)
    clear c3
    obtain rfl := Option.some.inj H
    go_enter Try.func65, Try.ntmps65
    go_wp2
    go_ret
    exact ⟨by first | rfl | (simp [errW_none, errW_some] <;> rfl) | (simp [*, errW_none, errW_some] <;> rfl), by repeat (first | (with_reducible first | exact HB.out | apply below_alloc | apply pw_below_drewN | apply below_drew1) | exact HB.out)⟩
  · rw [if_neg c3] at H
    have c3b0 : decide (64 < (l0.length : Int)) = false := decide_eq_false c3
    have c3b1 : decide (64 < l0.length) = false := decide_eq_false (by omega)
    clear c3
    have H' := Aside0.mk H
    clear H
    go_enter Try.func65, Try.ntmps65
    go_wp2
    go_loopg [12] k (fun kq v12 w' => ∃ (x12_1 : Int), v12 = .int .i64 x12_1 ∧ Aside0 (glider_checkCourses.l0 kq a1 l0 (l0.length : Int) x12_1 = some r) ∧ Aside0 (kq ≤ k) ∧ Aside0 (Below w.heap.size w w'))
    case atStart => exact ⟨(0), (by first | rfl | (simp; done) | (simp [*]; done)), H', ⟨Nat.le_refl _⟩, ⟨by repeat (first | (with_reducible first | exact HB.out | apply below_alloc | apply pw_below_drewN | apply below_drew1) | exact HB.out)⟩⟩
    case round =>
      clear H'
      try clear p2
      try clear c3
      try clear c3b0
      try clear c3b1
      obtain ⟨x12_1, rfl, HA, HK1, HB⟩ := hrel
      cases gk with
      | zero => exact absurd HA.out (by simp [glider_checkCourses.l0])
      | succ k1 =>
        have H := HA.out
        clear HA
        simp only [glider_checkCourses.l0] at H
        by_cases c4 : x12_1 < (l0.length : Int)
        · rw [if_pos c4] at H
          have c4b0 : decide (x12_1 < (l0.length : Int)) = true := decide_eq_true c4
          clear c4
          by_cases c5 : 0 ≤ x12_1
          · rw [if_pos c5] at H
            have c5b0 : decide (0 ≤ x12_1) = true := decide_eq_true c5
            clear c5
            by_cases c6 : x12_1 < (l0.length : Int)
            · rw [if_pos c6] at H
              have c6b0 : decide (x12_1 < (l0.length : Int)) = true := decide_eq_true c6
              clear c6
              by_cases c7 : ((rd_T33 l0 x12_1).f0) < 0
              · rw [if_pos c7] at H
                have c7b0 : decide (((rd_T33 l0 x12_1).f0) < 0) = true := decide_eq_true c7
                clear c7
                obtain rfl := Option.some.inj H
                have p156 : 0 ≤ (x12_1 : Int) := of_decide_eq_true (by first | (with_reducible assumption) | assumption)
                have q156 : x12_1 < (l0.length : Int) := of_decide_eq_true (by first | (with_reducible assumption) | assumption)
                obtain ⟨ad156, e156, hx156_0, hx156_1⟩ := at_T33 HR0.out x12_1 p156 q156
                cases e156
                replace hx156_0 := (HB.out.cell (World.block_lt_of_cell? w _ hx156_0)).trans hx156_0
                replace hx156_1 := (HB.out.cell (World.block_lt_of_cell? w _ hx156_1)).trans hx156_1
                replace p156 := eq_true p156
                replace q156 := eq_true q156
                go_wp2_with (first | ((with_reducible refine gate_dst (N := 6) rfl ?_); refine box_event ?hg (N := 6) ?hd (cs := #[.int .i64 0, .int .i64 0]) (t := 33) ?hr ?_; (case hd => rfl); (case hg => rfl); (case hr => first | (go_simp; done) | (go_simp; rfl)); intro gb157 hg w8 hbox hb; have n0_ := Aside0.mk (below_step (by repeat (first | (with_reducible first | exact HB.out | apply below_alloc | apply pw_below_drewN | apply below_drew1) | exact HB.out)) hb); have n1_ := Aside0.mk (hbox); have n2_ := Aside0.mk ((by rw [hg]; exact (below_size (by repeat (first | (with_reducible first | exact HB.out | apply below_alloc | apply pw_below_drewN | apply below_drew1) | exact HB.out))) : w.heap.size ≤ gb157)); have n3_ := Aside0.mk ((by rw [hg]; exact (below_size (by repeat (first | (with_reducible first | exact HB.out | apply below_alloc | apply pw_below_drewN | apply below_drew1) | exact HB.out))) : w.heap.size ≤ gb157)); clear HB; have HB := n0_; have BK157 := n1_; have GW157 := n2_; have GE157 := n3_; clear n0_ n1_ n2_ n3_; clear hb hbox hg; have hcz9_0 : w8.cell? ⟨gb157, 0, none⟩ = some (.int .i64 0) := (blk_cell BK157.out 0).trans rfl; have hcz9_1 : w8.cell? ⟨gb157, 1, none⟩ = some (.int .i64 0) := (blk_cell BK157.out 1).trans rfl; have hfz9_0 := blk_frozen BK157.out 0; have hfz9_1 := blk_frozen BK157.out 1))
                go_ret
                exact ⟨by first | rfl | (simp [errW_none, errW_some] <;> rfl) | (simp [*, errW_none, errW_some] <;> rfl), by repeat (first | (with_reducible first | exact HB.out | apply below_alloc | apply pw_below_drewN | apply below_drew1 | refine below_set ?_ GE157.out) | exact HB.out)⟩
              · rw [if_neg c7] at H
                have c7b0 : decide (((rd_T33 l0 x12_1).f0) < 0) = false := decide_eq_false c7
                clear c7
                by_cases c10 : ((rd_T33 l0 x12_1).f0) ≥ 9
                · rw [if_pos c10] at H
                  have c10b0 : decide (9 ≤ ((rd_T33 l0 x12_1).f0)) = true := decide_eq_true c10
                  clear c10
                  obtain rfl := Option.some.inj H
                  have p156 : 0 ≤ (x12_1 : Int) := of_decide_eq_true (by first | (with_reducible assumption) | assumption)
                  have q156 : x12_1 < (l0.length : Int) := of_decide_eq_true (by first | (with_reducible assumption) | assumption)
                  obtain ⟨ad156, e156, hx156_0, hx156_1⟩ := at_T33 HR0.out x12_1 p156 q156
                  cases e156
                  replace hx156_0 := (HB.out.cell (World.block_lt_of_cell? w _ hx156_0)).trans hx156_0
                  replace hx156_1 := (HB.out.cell (World.block_lt_of_cell? w _ hx156_1)).trans hx156_1
                  replace p156 := eq_true p156
                  replace q156 := eq_true q156
                  go_wp2_with (first | ((with_reducible refine gate_dst (N := 6) rfl ?_); refine box_event ?hg (N := 6) ?hd (cs := #[.int .i64 0, .int .i64 0]) (t := 33) ?hr ?_; (case hd => rfl); (case hg => rfl); (case hr => first | (go_simp; done) | (go_simp; rfl)); intro gb157 hg w11 hbox hb; have n0_ := Aside0.mk (below_step (by repeat (first | (with_reducible first | exact HB.out | apply below_alloc | apply pw_below_drewN | apply below_drew1) | exact HB.out)) hb); have n1_ := Aside0.mk (hbox); have n2_ := Aside0.mk ((by rw [hg]; exact (below_size (by repeat (first | (with_reducible first | exact HB.out | apply below_alloc | apply pw_below_drewN | apply below_drew1) | exact HB.out))) : w.heap.size ≤ gb157)); have n3_ := Aside0.mk ((by rw [hg]; exact (below_size (by repeat (first | (with_reducible first | exact HB.out | apply below_alloc | apply pw_below_drewN | apply below_drew1) | exact HB.out))) : w.heap.size ≤ gb157)); clear HB; have HB := n0_; have BK157 := n1_; have GW157 := n2_; have GE157 := n3_; clear n0_ n1_ n2_ n3_; clear hb hbox hg; have hcz12_0 : w11.cell? ⟨gb157, 0, none⟩ = some (.int .i64 0) := (blk_cell BK157.out 0).trans rfl; have hcz12_1 : w11.cell? ⟨gb157, 1, none⟩ = some (.int .i64 0) := (blk_cell BK157.out 1).trans rfl; have hfz12_0 := blk_frozen BK157.out 0; have hfz12_1 := blk_frozen BK157.out 1))
                  go_ret
                  exact ⟨by first | rfl | (simp [errW_none, errW_some] <;> rfl) | (simp [*, errW_none, errW_some] <;> rfl), by repeat (first | (with_reducible first | exact HB.out | apply below_alloc | apply pw_below_drewN | apply below_drew1 | refine below_set ?_ GE157.out) | exact HB.out)⟩
                · rw [if_neg c10] at H
                  have c10b0 : decide (9 ≤ ((rd_T33 l0 x12_1).f0)) = false := decide_eq_false c10
                  clear c10
                  by_cases c13 : ((rd_T33 l0 x12_1).f1) < 0
                  · rw [if_pos c13] at H
                    have c13b0 : decide (((rd_T33 l0 x12_1).f1) < 0) = true := decide_eq_true c13
                    clear c13
                    obtain rfl := Option.some.inj H
                    have p156 : 0 ≤ (x12_1 : Int) := of_decide_eq_true (by first | (with_reducible assumption) | assumption)
                    have q156 : x12_1 < (l0.length : Int) := of_decide_eq_true (by first | (with_reducible assumption) | assumption)
                    obtain ⟨ad156, e156, hx156_0, hx156_1⟩ := at_T33 HR0.out x12_1 p156 q156
                    cases e156
                    replace hx156_0 := (HB.out.cell (World.block_lt_of_cell? w _ hx156_0)).trans hx156_0
                    replace hx156_1 := (HB.out.cell (World.block_lt_of_cell? w _ hx156_1)).trans hx156_1
                    replace p156 := eq_true p156
                    replace q156 := eq_true q156
                    go_wp2_with (first | ((with_reducible refine gate_dst (N := 6) rfl ?_); refine box_event ?hg (N := 6) ?hd (cs := #[.int .i64 0, .int .i64 0]) (t := 33) ?hr ?_; (case hd => rfl); (case hg => rfl); (case hr => first | (go_simp; done) | (go_simp; rfl)); intro gb157 hg w14 hbox hb; have n0_ := Aside0.mk (below_step (by repeat (first | (with_reducible first | exact HB.out | apply below_alloc | apply pw_below_drewN | apply below_drew1) | exact HB.out)) hb); have n1_ := Aside0.mk (hbox); have n2_ := Aside0.mk ((by rw [hg]; exact (below_size (by repeat (first | (with_reducible first | exact HB.out | apply below_alloc | apply pw_below_drewN | apply below_drew1) | exact HB.out))) : w.heap.size ≤ gb157)); have n3_ := Aside0.mk ((by rw [hg]; exact (below_size (by repeat (first | (with_reducible first | exact HB.out | apply below_alloc | apply pw_below_drewN | apply below_drew1) | exact HB.out))) : w.heap.size ≤ gb157)); clear HB; have HB := n0_; have BK157 := n1_; have GW157 := n2_; have GE157 := n3_; clear n0_ n1_ n2_ n3_; clear hb hbox hg; have hcz15_0 : w14.cell? ⟨gb157, 0, none⟩ = some (.int .i64 0) := (blk_cell BK157.out 0).trans rfl; have hcz15_1 : w14.cell? ⟨gb157, 1, none⟩ = some (.int .i64 0) := (blk_cell BK157.out 1).trans rfl; have hfz15_0 := blk_frozen BK157.out 0; have hfz15_1 := blk_frozen BK157.out 1))
                    go_ret
                    exact ⟨by first | rfl | (simp [errW_none, errW_some] <;> rfl) | (simp [*, errW_none, errW_some] <;> rfl), by repeat (first | (with_reducible first | exact HB.out | apply below_alloc | apply pw_below_drewN | apply below_drew1 | refine below_set ?_ GE157.out) | exact HB.out)⟩
                  · rw [if_neg c13] at H
                    have c13b0 : decide (((rd_T33 l0 x12_1).f1) < 0) = false := decide_eq_false c13
                    clear c13
                    by_cases c16 : a1 ≥ 0
                    · rw [if_pos c16] at H
                      have c16b0 : decide (0 ≤ a1) = true := decide_eq_true c16
                      clear c16
                      by_cases c17 : ((rd_T33 l0 x12_1).f1) ≥ a1
                      · rw [if_pos c17] at H
                        have c17b0 : decide (a1 ≤ ((rd_T33 l0 x12_1).f1)) = true := decide_eq_true c17
                        clear c17
                        obtain rfl := Option.some.inj H
                        have p156 : 0 ≤ (x12_1 : Int) := of_decide_eq_true (by first | (with_reducible assumption) | assumption)
                        have q156 : x12_1 < (l0.length : Int) := of_decide_eq_true (by first | (with_reducible assumption) | assumption)
                        obtain ⟨ad156, e156, hx156_0, hx156_1⟩ := at_T33 HR0.out x12_1 p156 q156
                        cases e156
                        replace hx156_0 := (HB.out.cell (World.block_lt_of_cell? w _ hx156_0)).trans hx156_0
                        replace hx156_1 := (HB.out.cell (World.block_lt_of_cell? w _ hx156_1)).trans hx156_1
                        replace p156 := eq_true p156
                        replace q156 := eq_true q156
                        go_wp2_with (first | ((with_reducible refine gate_dst (N := 6) rfl ?_); refine box_event ?hg (N := 6) ?hd (cs := #[.int .i64 0, .int .i64 0]) (t := 33) ?hr ?_; (case hd => rfl); (case hg => rfl); (case hr => first | (go_simp; done) | (go_simp; rfl)); intro gb157 hg w18 hbox hb; have n0_ := Aside0.mk (below_step (by repeat (first | (with_reducible first | exact HB.out | apply below_alloc | apply pw_below_drewN | apply below_drew1) | exact HB.out)) hb); have n1_ := Aside0.mk (hbox); have n2_ := Aside0.mk ((by rw [hg]; exact (below_size (by repeat (first | (with_reducible first | exact HB.out | apply below_alloc | apply pw_below_drewN | apply below_drew1) | exact HB.out))) : w.heap.size ≤ gb157)); have n3_ := Aside0.mk ((by rw [hg]; exact (below_size (by repeat (first | (with_reducible first | exact HB.out | apply below_alloc | apply pw_below_drewN | apply below_drew1) | exact HB.out))) : w.heap.size ≤ gb157)); clear HB; have HB := n0_; have BK157 := n1_; have GW157 := n2_; have GE157 := n3_; clear n0_ n1_ n2_ n3_; clear hb hbox hg; have hcz19_0 : w18.cell? ⟨gb157, 0, none⟩ = some (.int .i64 0) := (blk_cell BK157.out 0).trans rfl; have hcz19_1 : w18.cell? ⟨gb157, 1, none⟩ = some (.int .i64 0) := (blk_cell BK157.out 1).trans rfl; have hfz19_0 := blk_frozen BK157.out 0; have hfz19_1 := blk_frozen BK157.out 1))
                        go_ret
                        exact ⟨by first | rfl | (simp [errW_none, errW_some] <;> rfl) | (simp [*, errW_none, errW_some] <;> rfl), by repeat (first | (with_reducible first | exact HB.out | apply below_alloc | apply pw_below_drewN | apply below_drew1 | refine below_set ?_ GE157.out) | exact HB.out)⟩
                      · rw [if_neg c17] at H
                        have c17b0 : decide (a1 ≤ ((rd_T33 l0 x12_1).f1)) = false := decide_eq_false c17
                        clear c17
                        have H' := Aside0.mk H
                        clear H
                        have p156 : 0 ≤ (x12_1 : Int) := of_decide_eq_true (by first | (with_reducible assumption) | assumption)
                        have q156 : x12_1 < (l0.length : Int) := of_decide_eq_true (by first | (with_reducible assumption) | assumption)
                        obtain ⟨ad156, e156, hx156_0, hx156_1⟩ := at_T33 HR0.out x12_1 p156 q156
                        cases e156
                        replace hx156_0 := (HB.out.cell (World.block_lt_of_cell? w _ hx156_0)).trans hx156_0
                        replace hx156_1 := (HB.out.cell (World.block_lt_of_cell? w _ hx156_1)).trans hx156_1
                        replace p156 := eq_true p156
                        replace q156 := eq_true q156
                        go_wp2_with (first | ((with_reducible refine gate_dst (N := 6) rfl ?_); refine box_event ?hg (N := 6) ?hd (cs := #[.int .i64 0, .int .i64 0]) (t := 33) ?hr ?_; (case hd => rfl); (case hg => rfl); (case hr => first | (go_simp; done) | (go_simp; rfl)); intro gb157 hg w20 hbox hb; have n0_ := Aside0.mk (below_step (by repeat (first | (with_reducible first | exact HB.out | apply below_alloc | apply pw_below_drewN | apply below_drew1) | exact HB.out)) hb); have n1_ := Aside0.mk (hbox); have n2_ := Aside0.mk ((by rw [hg]; exact (below_size (by repeat (first | (with_reducible first | exact HB.out | apply below_alloc | apply pw_below_drewN | apply below_drew1) | exact HB.out))) : w.heap.size ≤ gb157)); have n3_ := Aside0.mk ((by rw [hg]; exact (below_size (by repeat (first | (with_reducible first | exact HB.out | apply below_alloc | apply pw_below_drewN | apply below_drew1) | exact HB.out))) : w.heap.size ≤ gb157)); clear HB; have HB := n0_; have BK157 := n1_; have GW157 := n2_; have GE157 := n3_; clear n0_ n1_ n2_ n3_; clear hb hbox hg; have hcz21_0 : w20.cell? ⟨gb157, 0, none⟩ = some (.int .i64 0) := (blk_cell BK157.out 0).trans rfl; have hcz21_1 : w20.cell? ⟨gb157, 1, none⟩ = some (.int .i64 0) := (blk_cell BK157.out 1).trans rfl; have hfz21_0 := blk_frozen BK157.out 0; have hfz21_1 := blk_frozen BK157.out 1))
                        go_roundg k1
                        case measure => have := HK1.out; omega
                        case rel => exact ⟨(wrap64 (x12_1 + 1)), (by first | rfl | (simp; done) | (simp [*]; done)), H', ⟨by have := HK1.out; omega⟩, ⟨by repeat (first | (with_reducible first | exact HB.out | apply below_alloc | apply pw_below_drewN | apply below_drew1 | refine below_set ?_ GE157.out) | exact HB.out)⟩⟩
                    · rw [if_neg c16] at H
                      have c16b0 : decide (0 ≤ a1) = false := decide_eq_false c16
                      clear c16
                      have H' := Aside0.mk H
                      clear H
                      have p156 : 0 ≤ (x12_1 : Int) := of_decide_eq_true (by first | (with_reducible assumption) | assumption)
                      have q156 : x12_1 < (l0.length : Int) := of_decide_eq_true (by first | (with_reducible assumption) | assumption)
                      obtain ⟨ad156, e156, hx156_0, hx156_1⟩ := at_T33 HR0.out x12_1 p156 q156
                      cases e156
                      replace hx156_0 := (HB.out.cell (World.block_lt_of_cell? w _ hx156_0)).trans hx156_0
                      replace hx156_1 := (HB.out.cell (World.block_lt_of_cell? w _ hx156_1)).trans hx156_1
                      replace p156 := eq_true p156
                      replace q156 := eq_true q156
                      go_wp2_with (first | ((with_reducible refine gate_dst (N := 6) rfl ?_); refine box_event ?hg (N := 6) ?hd (cs := #[.int .i64 0, .int .i64 0]) (t := 33) ?hr ?_; (case hd => rfl); (case hg => rfl); (case hr => first | (go_simp; done) | (go_simp; rfl)); intro gb157 hg w22 hbox hb; have n0_ := Aside0.mk (below_step (by repeat (first | (with_reducible first | exact HB.out | apply below_alloc | apply pw_below_drewN | apply below_drew1) | exact HB.out)) hb); have n1_ := Aside0.mk (hbox); have n2_ := Aside0.mk ((by rw [hg]; exact (below_size (by repeat (first | (with_reducible first | exact HB.out | apply below_alloc | apply pw_below_drewN | apply below_drew1) | exact HB.out))) : w.heap.size ≤ gb157)); have n3_ := Aside0.mk ((by rw [hg]; exact (below_size (by repeat (first | (with_reducible first | exact HB.out | apply below_alloc | apply pw_below_drewN | apply below_drew1) | exact HB.out))) : w.heap.size ≤ gb157)); clear HB; have HB := n0_; have BK157 := n1_; have GW157 := n2_; have GE157 := n3_; clear n0_ n1_ n2_ n3_; clear hb hbox hg; have hcz23_0 : w22.cell? ⟨gb157, 0, none⟩ = some (.int .i64 0) := (blk_cell BK157.out 0).trans rfl; have hcz23_1 : w22.cell? ⟨gb157, 1, none⟩ = some (.int .i64 0) := (blk_cell BK157.out 1).trans rfl; have hfz23_0 := blk_frozen BK157.out 0; have hfz23_1 := blk_frozen BK157.out 1))
                      go_roundg k1
                      case measure => have := HK1.out; omega
                      case rel => exact ⟨(wrap64 (x12_1 + 1)), (by first | rfl | (simp; done) | (simp [*]; done)), H', ⟨by have := HK1.out; omega⟩, ⟨by repeat (first | (with_reducible first | exact HB.out | apply below_alloc | apply pw_below_drewN | apply below_drew1 | refine below_set ?_ GE157.out) | exact HB.out)⟩⟩
            · rw [if_neg c6] at H
              exact absurd H (by simp)
          · rw [if_neg c5] at H
            exact absurd H (by simp)
        · rw [if_neg c4] at H
          have c4b0 : decide (x12_1 < (l0.length : Int)) = false := decide_eq_false c4
          clear c4
          obtain rfl := Option.some.inj H
          go_wp2
          go_ret
          exact ⟨by first | rfl | (simp [errW_none, errW_some] <;> rfl) | (simp [*, errW_none, errW_some] <;> rfl), by repeat (first | (with_reducible first | exact HB.out | apply below_alloc | apply pw_below_drewN | apply below_drew1) | exact HB.out)⟩

end Go.Proofs.Ytmhaiihjfgfaoaa.Pr
end
