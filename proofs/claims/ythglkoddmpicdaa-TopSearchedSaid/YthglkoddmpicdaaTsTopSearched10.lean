/- Part 10 of the proof of TopSearched: what the functions compute. No condition. -/
import Derived.Test.YthglkoddmpicdaaTsTopSearched3
import Derived.Test.YthglkoddmpicdaaTsTopSearched6
import Derived.Test.YthglkoddmpicdaaTsTopSearched9
set_option linter.unusedVariables false
set_option linter.unusedSimpArgs false
section
/- The box in which a dive ends. -/
namespace Go.Proofs.Ythglkoddmpicdaa.Gl
open Go.RowKit Go.Shelf Go.Proofs.YthglkoddmpicdaaW.PrintWords Go.Proofs.YthglkoddmpicdaaW.PrintLast Go.Proofs.YthglkoddmpicdaaW.PrintMore Go.Proofs.Ythglkoddmpicdaa.Pr Go.Proofs.YthglkoddmpicdaaW.Round
set_option linter.unusedVariables false
set_option linter.unusedSimpArgs false
attribute [local go_sem] max2_int min2_int max_two min_two max_four
/-- The direction of a heading. -/
def dirI (h : Int) : Int × Int := if h = 0 then (0, 1000) else if h = 1 then (707, 707) else if h = 2 then (1000, 0) else if h = 3 then (707, -707) else if h = 4 then (0, -1000) else if h = 5 then (-707, -707) else if h = 6 then (-1000, 0) else if h = 7 then (-707, 707) else if h = 8 then (0, 0) else (0, 0)
theorem dirI_in (h : Int) : (-1000 ≤ (dirI h).1 ∧ (dirI h).1 ≤ 1000) ∧ (-1000 ≤ (dirI h).2 ∧ (dirI h).2 ≤ 1000) := by
 unfold dirI
 repeat' split
 all_goals decide
set_option maxRecDepth 100000 in
set_option maxHeartbeats 2000000 in
theorem dirs_any (w : World) : Calls Try.prog 160 #[] w (RetB (.agg #[.int .i64 0, .int .i64 1000, .int .i64 707, .int .i64 707, .int .i64 1000, .int .i64 0, .int .i64 707, .int .i64 (-707), .int .i64 0, .int .i64 (-1000), .int .i64 (-707), .int .i64 (-707), .int .i64 (-1000), .int .i64 0, .int .i64 (-707), .int .i64 707, .int .i64 0, .int .i64 0]) w) := by
 have hu82 := Try.underlying82
 have hu81 := Try.underlying81
 go_enter Try.func160, Try.ntmps160
 go_wp2
 exact bodyPost_ret (results_cell_row rfl _ _ w.heap.size 82 #[.int .i64 0, .int .i64 1000, .int .i64 707, .int .i64 707, .int .i64 1000, .int .i64 0, .int .i64 707, .int .i64 (-707), .int .i64 0, .int .i64 (-1000), .int .i64 (-707), .int .i64 (-707), .int .i64 (-1000), .int .i64 0, .int .i64 (-707), .int .i64 707, .int .i64 0, .int .i64 0] (0, 0) _ rfl (blk_new w _) Try.underlying82 rfl zq3) rfl ⟨rfl, below_alloc (Below.refl _ w) _⟩
/-- The box in which a dive ends. -/
def endsI (s : Sea) (v : Veh) (x rb : S29) (t heading layer : Int) : S29 := ⟨shiftI v.dive x.f0 ((dirI heading).1 * v.speed) (atI s rb layer t (t + v.dive)).f0, shiftI v.dive x.f1 ((dirI heading).2 * v.speed) (atI s rb layer t (t + v.dive)).f1⟩
set_option maxRecDepth 100000 in
set_option maxHeartbeats 8000000 in
theorem ends_any (b : Nat) (se : Sea) (v : Veh) (x rb : S29) (t hd layer : Int) (w : World) (hT : TripAt w b se v) (hS : SeaN se) (hV : VehN v) (hcu : (se.currents.length : Int) = se.slots * se.layers * (se.nx * se.ny)) (hcb : CurB se) (hx : SmallB x) (hr : InSea se rb) (ht0 : 0 ≤ t) (ht2 : t + v.dive ≤ se.slots * se.slot) (hh0 : 0 ≤ hd) (hh1 : hd ≤ 8) (hl0 : 0 ≤ layer) (hl1 : layer < se.layers) :
  Calls Try.prog 135 #[.pointer (some ⟨b, 0, none⟩), .agg #[.int .i64 x.f0.f0, .int .i64 x.f0.f1, .int .i64 x.f1.f0, .int .i64 x.f1.f1], .agg #[.int .i64 rb.f0.f0, .int .i64 rb.f0.f1, .int .i64 rb.f1.f0, .int .i64 rb.f1.f1], .int .i64 t, .agg #[.int .i64 hd, .int .i64 layer]] w (RetB (.agg #[.int .i64 (endsI se v x rb t hd layer).f0.f0, .int .i64 (endsI se v x rb t hd layer).f0.f1, .int .i64 (endsI se v x rb t hd layer).f1.f0, .int .i64 (endsI se v x rb t hd layer).f1.f1]) w) := by
 have hu29 := Try.underlying29
 have hu27 := Try.underlying27
 have hu81 := Try.underlying81
 have hu82 := Try.underlying82
 have hu76 := Try.underlying76
 have hdv := hV.dive
 have hsp := hV.speed
 have hss := mul_in (show 0 ≤ se.slots by have := hS.slots; omega) hS.slots.2 (show 0 ≤ se.slot by have := hS.slot; omega) hS.slot.2
 have hix : ∀ W_ : World, (Instr.index 82 (.agg #[.int .i64 0, .int .i64 1000, .int .i64 707, .int .i64 707, .int .i64 1000, .int .i64 0, .int .i64 707, .int .i64 (-707), .int .i64 0, .int .i64 (-1000), .int .i64 (-707), .int .i64 (-707), .int .i64 (-1000), .int .i64 0, .int .i64 (-707), .int .i64 707, .int .i64 0, .int .i64 0]) (.int .i64 hd)).run Try.prog W_ = .ok (.agg #[.int .i64 (dirI hd).1, .int .i64 (dirI hd).2]) W_ := by
  have h9 : hd = 0 ∨ hd = 1 ∨ hd = 2 ∨ hd = 3 ∨ hd = 4 ∨ hd = 5 ∨ hd = 6 ∨ hd = 7 ∨ hd = 8 := by omega
  rcases h9 with rfl | rfl | rfl | rfl | rfl | rfl | rfl | rfl | rfl <;> exact fun W_ => by kernel_rfl
 have hdi := dirI_in hd
 have hai := at_in hcb rb layer t (t + v.dive)
 have kA := fun u_ (hu_ : u_ = t + v.dive) W (h : TripAt W b se v) => at_any b se v rb layer t u_ W h hS hr hcu hl0 hl1 ht0 (by omega) (by omega)
 have hyy : ∀ u_, u_ = t + v.dive → atI se rb layer t u_ = atI se rb layer t (t + v.dive) := fun u_ h => by rw [h]
 have HR : Hid (endsI se v x rb t hd layer = ⟨shiftI v.dive x.f0 ((dirI hd).1 * v.speed) (atI se rb layer t (t + v.dive)).f0, shiftI v.dive x.f1 ((dirI hd).2 * v.speed) (atI se rb layer t (t + v.dive)).f1⟩) := Lib.hid rfl
 have kA := fun u_ (hu_ : u_ = t + v.dive) W (h : TripAt W b se v) => by have h1 := kA u_ hu_ W h; rw [hyy u_ hu_] at h1; exact h1
 clear hyy
 generalize atI se rb layer t (t + v.dive) = y at *
 generalize dirI hd = d at *
 obtain ⟨d0, d1⟩ := d
 dsimp only at hdi hix HR
 have m0 := mul_abs (a := d0) (b := v.speed) (m := 1000) (n := 5000) hdi.1.1 hdi.1.2 hsp.1 hsp.2 (by omega)
 have m1 := mul_abs (a := d1) (b := v.speed) (m := 1000) (n := 5000) hdi.2.1 hdi.2.2 hsp.1 hsp.2 (by omega)
 have kS0 := fun z_ (hz_ : z_ = d0 * v.speed) W (h : TripAt W b se v) => shift_any b se v x.f0 z_ y.f0 W h hV hx.1 hx.2.1 (by omega) hai.1 hai.2.1
 have kS1 := fun z_ (hz_ : z_ = d1 * v.speed) W (h : TripAt W b se v) => shift_any b se v x.f1 z_ y.f1 W h hV hx.2.2.1 hx.2.2.2 (by omega) hai.2.2.1 hai.2.2.2.1
 have hT0 := hT
 obtain ⟨A7, c7, A8, c8, mT, _⟩ := hT0
 have w1 : wrap64 (t + v.dive) = t + v.dive := by unfold wrap64; omega
 have w2 : wrap64 (d0 * v.speed) = d0 * v.speed := by unfold wrap64; omega
 have w3 : wrap64 (d1 * v.speed) = d1 * v.speed := by unfold wrap64; omega
 clear hx hr hS hV hcu hcb hai hdi hss m0 m1 hdv hsp ht0 ht2 hh0 hh1 hl0 hl1
 go_enter Try.func135, Try.ntmps135
 go_wp2_with fail
 have hl_T := blk_lt mT
 have m6 : Blk ((((w.alloc (.cells #[.int .i64 x.f0.f0, .int .i64 x.f0.f1, .int .i64 x.f1.f0, .int .i64 x.f1.f1] 29)).alloc (.cells #[.int .i64 rb.f0.f0, .int .i64 rb.f0.f1, .int .i64 rb.f1.f0, .int .i64 rb.f1.f1] 29)).alloc (.cells #[.int .i64 hd, .int .i64 layer] 76)).alloc (.cells #[.int .i64 0, .int .i64 0, .int .i64 0, .int .i64 0] 29)) (w.heap.size) #[.int .i64 x.f0.f0, .int .i64 x.f0.f1, .int .i64 x.f1.f0, .int .i64 x.f1.f1] 29 := (blk_alloc (blk_alloc (blk_alloc zq27 _) _) _)
 have m7 : Blk ((((w.alloc (.cells #[.int .i64 x.f0.f0, .int .i64 x.f0.f1, .int .i64 x.f1.f0, .int .i64 x.f1.f1] 29)).alloc (.cells #[.int .i64 rb.f0.f0, .int .i64 rb.f0.f1, .int .i64 rb.f1.f0, .int .i64 rb.f1.f1] 29)).alloc (.cells #[.int .i64 hd, .int .i64 layer] 76)).alloc (.cells #[.int .i64 0, .int .i64 0, .int .i64 0, .int .i64 0] 29)) (w.heap.size + 1) #[.int .i64 rb.f0.f0, .int .i64 rb.f0.f1, .int .i64 rb.f1.f0, .int .i64 rb.f1.f1] 29 := (blk_alloc (blk_alloc (by have h_ := blk_new (w.alloc (.cells #[.int .i64 x.f0.f0, .int .i64 x.f0.f1, .int .i64 x.f1.f0, .int .i64 x.f1.f1] 29)) (.cells #[.int .i64 rb.f0.f0, .int .i64 rb.f0.f1, .int .i64 rb.f1.f0, .int .i64 rb.f1.f1] 29); first | exact h_ | (simp only [World.size_alloc] at h_; exact h_)) _) _)
 have m9 : Blk ((((w.alloc (.cells #[.int .i64 x.f0.f0, .int .i64 x.f0.f1, .int .i64 x.f1.f0, .int .i64 x.f1.f1] 29)).alloc (.cells #[.int .i64 rb.f0.f0, .int .i64 rb.f0.f1, .int .i64 rb.f1.f0, .int .i64 rb.f1.f1] 29)).alloc (.cells #[.int .i64 hd, .int .i64 layer] 76)).alloc (.cells #[.int .i64 0, .int .i64 0, .int .i64 0, .int .i64 0] 29)) (w.heap.size + 1 + 1) #[.int .i64 hd, .int .i64 layer] 76 := (blk_alloc (by have h_ := blk_new ((w.alloc (.cells #[.int .i64 x.f0.f0, .int .i64 x.f0.f1, .int .i64 x.f1.f0, .int .i64 x.f1.f1] 29)).alloc (.cells #[.int .i64 rb.f0.f0, .int .i64 rb.f0.f1, .int .i64 rb.f1.f0, .int .i64 rb.f1.f1] 29)) (.cells #[.int .i64 hd, .int .i64 layer] 76); first | exact h_ | (simp only [World.size_alloc] at h_; exact h_)) _)
 have m10 : Blk ((((w.alloc (.cells #[.int .i64 x.f0.f0, .int .i64 x.f0.f1, .int .i64 x.f1.f0, .int .i64 x.f1.f1] 29)).alloc (.cells #[.int .i64 rb.f0.f0, .int .i64 rb.f0.f1, .int .i64 rb.f1.f0, .int .i64 rb.f1.f1] 29)).alloc (.cells #[.int .i64 hd, .int .i64 layer] 76)).alloc (.cells #[.int .i64 0, .int .i64 0, .int .i64 0, .int .i64 0] 29)) (w.heap.size + 1 + 1 + 1) #[.int .i64 0, .int .i64 0, .int .i64 0, .int .i64 0] 29 := (by have h_ := blk_new (((w.alloc (.cells #[.int .i64 x.f0.f0, .int .i64 x.f0.f1, .int .i64 x.f1.f0, .int .i64 x.f1.f1] 29)).alloc (.cells #[.int .i64 rb.f0.f0, .int .i64 rb.f0.f1, .int .i64 rb.f1.f0, .int .i64 rb.f1.f1] 29)).alloc (.cells #[.int .i64 hd, .int .i64 layer] 76)) (.cells #[.int .i64 0, .int .i64 0, .int .i64 0, .int .i64 0] 29); first | exact h_ | (simp only [World.size_alloc] at h_; exact h_))
 replace mT : Blk ((((w.alloc (.cells #[.int .i64 x.f0.f0, .int .i64 x.f0.f1, .int .i64 x.f1.f0, .int .i64 x.f1.f1] 29)).alloc (.cells #[.int .i64 rb.f0.f0, .int .i64 rb.f0.f1, .int .i64 rb.f1.f0, .int .i64 rb.f1.f1] 29)).alloc (.cells #[.int .i64 hd, .int .i64 layer] 76)).alloc (.cells #[.int .i64 0, .int .i64 0, .int .i64 0, .int .i64 0] 29)) b #[.int .i64 se.nx, .int .i64 se.ny, .int .i64 se.cell, .int .i64 se.slot, .int .i64 se.slots, .int .i64 se.layers, .int .i64 se.most, .slice A7 se.shores.length c7, .slice A8 se.currents.length c8, .int .i64 v.speed, .int .i64 v.dive, .int .i64 v.use.f0, .int .i64 v.use.f1, .int .i64 v.drift.f0, .int .i64 v.drift.f1, .int .i64 v.reserve] 120 := (blk_alloc (blk_alloc (blk_alloc (blk_alloc mT _) _) _) _)
 have mB : Below w.heap.size w ((((w.alloc (.cells #[.int .i64 x.f0.f0, .int .i64 x.f0.f1, .int .i64 x.f1.f0, .int .i64 x.f1.f1] 29)).alloc (.cells #[.int .i64 rb.f0.f0, .int .i64 rb.f0.f1, .int .i64 rb.f1.f0, .int .i64 rb.f1.f1] 29)).alloc (.cells #[.int .i64 hd, .int .i64 layer] 76)).alloc (.cells #[.int .i64 0, .int .i64 0, .int .i64 0, .int .i64 0] 29)) := (below_alloc (below_alloc (below_alloc (below_alloc (Below.refl w.heap.size w) _) _) _) _)
 have hsz_ : w.heap.size ≤ w.heap.size := Nat.le_refl _
 generalize hW_ : ((((w.alloc (.cells #[.int .i64 x.f0.f0, .int .i64 x.f0.f1, .int .i64 x.f1.f0, .int .i64 x.f1.f1] 29)).alloc (.cells #[.int .i64 rb.f0.f0, .int .i64 rb.f0.f1, .int .i64 rb.f1.f0, .int .i64 rb.f1.f1] 29)).alloc (.cells #[.int .i64 hd, .int .i64 layer] 76)).alloc (.cells #[.int .i64 0, .int .i64 0, .int .i64 0, .int .i64 0] 29)) = W1 at mT m6 m7 m9 m10 mB ⊢
 clear hW_
 generalize hg6 : w.heap.size = g6 at m6 m7 m9 m10 ⊢
 have hn_T_6 : b ≠ g6 := by omega
 have hn_6_T : g6 ≠ b := hn_T_6.symm
 have hG6 : w.heap.size ≤ g6 := by omega
 generalize hg7 : g6 + 1 = g7 at m7 m9 m10 ⊢
 have hn_T_7 : b ≠ g7 := by omega
 have hn_6_7 : g6 ≠ g7 := by omega
 have hn_7_T : g7 ≠ b := hn_T_7.symm
 have hn_7_6 : g7 ≠ g6 := hn_6_7.symm
 have hG7 : w.heap.size ≤ g7 := by omega
 generalize hg9 : g7 + 1 = g9 at m9 m10 ⊢
 have hn_T_9 : b ≠ g9 := by omega
 have hn_6_9 : g6 ≠ g9 := by omega
 have hn_7_9 : g7 ≠ g9 := by omega
 have hn_9_T : g9 ≠ b := hn_T_9.symm
 have hn_9_6 : g9 ≠ g6 := hn_6_9.symm
 have hn_9_7 : g9 ≠ g7 := hn_7_9.symm
 have hG9 : w.heap.size ≤ g9 := by omega
 generalize hg10 : g9 + 1 = g10 at m10 ⊢
 have hn_T_10 : b ≠ g10 := by omega
 have hn_6_10 : g6 ≠ g10 := by omega
 have hn_7_10 : g7 ≠ g10 := by omega
 have hn_9_10 : g9 ≠ g10 := by omega
 have hn_10_T : g10 ≠ b := hn_T_10.symm
 have hn_10_6 : g10 ≠ g6 := hn_6_10.symm
 have hn_10_7 : g10 ≠ g7 := hn_7_10.symm
 have hn_10_9 : g10 ≠ g9 := hn_9_10.symm
 have hG10 : w.heap.size ≤ g10 := by omega
 clear hsz_ hl_T
 try clear hg10
 try clear hg9
 try clear hg7
 try clear hg6
 have hs_W1 : w.heap.size ≤ W1.heap.size := mB.size
 replace mT := blk_drew mT
 replace m6 := blk_drew m6
 replace m7 := blk_drew m7
 replace m9 := blk_drew m9
 replace m10 := blk_drew m10
 replace mB := below_drew1 mB
 refine start_ (n := 6) (S := fun w' => w'.cell? ⟨g9, 0, none⟩ = some (.int .i64 hd) ∧ w'.cell? ⟨g9, 1, none⟩ = some (.int .i64 layer)) (ds := [5]) #[false, false, false, false, false, false] zq3 rfl rfl ⟨((blk_cell m9 0).trans rfl), ((blk_cell m9 1).trans rfl)⟩ (fun hHeld => ?_)
 generalize hWd : World.drew _ = Wx at mT m6 m7 m9 m10 mB hHeld ⊢
 clear hWd
 refine zpz (i := 1) (N := some 14) zq3 ?_
 refine ztz (i := 2) (N := some 15) zq3 hHeld ?_
 refine join_ (σ := Nat) 1 #[true, true, true, true, true, false] (fun s => [(13, .agg #[.int .i64 0, .int .i64 1000, .int .i64 707, .int .i64 707, .int .i64 1000, .int .i64 0, .int .i64 707, .int .i64 (-707), .int .i64 0, .int .i64 (-1000), .int .i64 (-707), .int .i64 (-707), .int .i64 (-1000), .int .i64 0, .int .i64 (-707), .int .i64 707, .int .i64 0, .int .i64 0]), (16, .agg #[.int .i64 d0, .int .i64 d1]), (11, .pointer (some ⟨s, 0, none⟩))]) (fun s w' => Blk w' b #[.int .i64 se.nx, .int .i64 se.ny, .int .i64 se.cell, .int .i64 se.slot, .int .i64 se.slots, .int .i64 se.layers, .int .i64 se.most, .slice A7 se.shores.length c7, .slice A8 se.currents.length c8, .int .i64 v.speed, .int .i64 v.dive, .int .i64 v.use.f0, .int .i64 v.use.f1, .int .i64 v.drift.f0, .int .i64 v.drift.f1, .int .i64 v.reserve] 120 ∧ Blk w' g6 #[.int .i64 x.f0.f0, .int .i64 x.f0.f1, .int .i64 x.f1.f0, .int .i64 x.f1.f1] 29 ∧ Blk w' g7 #[.int .i64 rb.f0.f0, .int .i64 rb.f0.f1, .int .i64 rb.f1.f0, .int .i64 rb.f1.f1] 29 ∧ Blk w' g9 #[.int .i64 hd, .int .i64 layer] 76 ∧ Blk w' g10 #[.int .i64 0, .int .i64 0, .int .i64 0, .int .i64 0] 29 ∧ Blk w' (s) #[.int .i64 0, .int .i64 0] 81 ∧ Below w.heap.size w w' ∧ w.heap.size ≤ s ∧ b ≠ s ∧ g6 ≠ s ∧ g7 ≠ s ∧ g9 ≠ s ∧ g10 ≠ s) ?_ ?_
 rotate_left
 ·intro hCont
  refine two_ (i := 0) (j := 4) (Ni := some 13) (Nj := some 11) #[true, true, true, false, false, false] #[false, true, true, false, true, false] rfl rfl rfl rfl zq3 (by decide) (by decide) (fun K hK => ?_) (fun K hK => ?_)
  ·skip
   have hcon_ := dirs_any (Wx)
   refine goes_ Try.func160 zq3 rfl #[] (by rfl) rfl rfl (by simp only [List.map_toArray, List.map_cons, List.map_nil]) ?_
   with_reducible refine (hcon_).mono ?_
   rintro e w0 ⟨rfl, hb⟩
   refine ⟨_, rfl, ?_⟩
   clear hcon_
   replace mT := blk_below mT hb
   replace m6 := blk_below m6 hb
   replace m7 := blk_below m7 hb
   replace m9 := blk_below m9 hb
   replace m10 := blk_below m10 hb
   replace mB := below_step mB hb
   clear hb
   refine hK.out _ _ ⟨((blk_cell m9 0).trans rfl), ((blk_cell m9 1).trans rfl)⟩ (fun hHeld => ?_)
   clear hK K
   refine norm_ zq28 ?_
   refine ztz (i := 3) (N := some 16) zq3 hHeld ?_
   refine one_ (i := 4) (N := some 11) #[true, true, true, true, true, false] rfl rfl zq3 (by decide) (fun K hK => ?_)
   have hn_T_11 : b ≠ w0.heap.size := by have h_ := blk_lt mT; omega
   have hn_6_11 : g6 ≠ w0.heap.size := by have h_ := blk_lt m6; omega
   have hn_7_11 : g7 ≠ w0.heap.size := by have h_ := blk_lt m7; omega
   have hn_9_11 : g9 ≠ w0.heap.size := by have h_ := blk_lt m9; omega
   have hn_10_11 : g10 ≠ w0.heap.size := by have h_ := blk_lt m10; omega
   have hG11 : w.heap.size ≤ w0.heap.size := by have h_ := mB.size; omega
   replace mT := blk_alloc mT (.cells #[.int .i64 0, .int .i64 0] 81)
   replace m6 := blk_alloc m6 (.cells #[.int .i64 0, .int .i64 0] 81)
   replace m7 := blk_alloc m7 (.cells #[.int .i64 0, .int .i64 0] 81)
   replace m9 := blk_alloc m9 (.cells #[.int .i64 0, .int .i64 0] 81)
   replace m10 := blk_alloc m10 (.cells #[.int .i64 0, .int .i64 0] 81)
   have m11 : Blk (w0.alloc (.cells #[.int .i64 0, .int .i64 0] 81)) (w0.heap.size) #[.int .i64 0, .int .i64 0] 81 := by have h_ := blk_new w0 (.cells #[.int .i64 0, .int .i64 0] 81); first | exact h_ | (simp only [World.size_alloc] at h_; exact h_)
   replace mB := below_alloc mB (.cells #[.int .i64 0, .int .i64 0] 81)
   refine value_ (w1 := ?_) (v := ?_) (by rfl) rfl ?_ ?_
   rotate_left 2
   ·go_simp
    constructor
    ·rfl
    ·rfl
   refine hK.out _ _ ⟨((blk_cell m9 0).trans rfl), ((blk_cell m9 1).trans rfl)⟩ (fun hHeld => ?_)
   clear hK K
   refine norm_ zq29 ?_
   exact norm_ zq30 (hCont (w0.heap.size) _ ⟨mT, m6, m7, m9, m10, m11, mB, hG11, hn_T_11, hn_6_11, hn_7_11, hn_9_11, hn_10_11⟩)
  ·skip
   have hn_T_11 : b ≠ Wx.heap.size := by have h_ := blk_lt mT; omega
   have hn_6_11 : g6 ≠ Wx.heap.size := by have h_ := blk_lt m6; omega
   have hn_7_11 : g7 ≠ Wx.heap.size := by have h_ := blk_lt m7; omega
   have hn_9_11 : g9 ≠ Wx.heap.size := by have h_ := blk_lt m9; omega
   have hn_10_11 : g10 ≠ Wx.heap.size := by have h_ := blk_lt m10; omega
   have hG11 : w.heap.size ≤ Wx.heap.size := by have h_ := mB.size; omega
   replace mT := blk_alloc mT (.cells #[.int .i64 0, .int .i64 0] 81)
   replace m6 := blk_alloc m6 (.cells #[.int .i64 0, .int .i64 0] 81)
   replace m7 := blk_alloc m7 (.cells #[.int .i64 0, .int .i64 0] 81)
   replace m9 := blk_alloc m9 (.cells #[.int .i64 0, .int .i64 0] 81)
   replace m10 := blk_alloc m10 (.cells #[.int .i64 0, .int .i64 0] 81)
   have m11 : Blk (Wx.alloc (.cells #[.int .i64 0, .int .i64 0] 81)) (Wx.heap.size) #[.int .i64 0, .int .i64 0] 81 := by have h_ := blk_new Wx (.cells #[.int .i64 0, .int .i64 0] 81); first | exact h_ | (simp only [World.size_alloc] at h_; exact h_)
   replace mB := below_alloc mB (.cells #[.int .i64 0, .int .i64 0] 81)
   refine value_ (w1 := ?_) (v := ?_) (by rfl) rfl ?_ ?_
   rotate_left 2
   ·go_simp
    constructor
    ·rfl
    ·rfl
   refine hK.out _ _ ⟨((blk_cell m9 0).trans rfl), ((blk_cell m9 1).trans rfl)⟩ (fun hHeld => ?_)
   clear hK K
   refine norm_ zq29 ?_
   refine one_ (i := 0) (N := some 13) #[true, true, true, false, true, false] rfl rfl zq3 (by decide) (fun K hK => ?_)
   have hcon_ := dirs_any ((Wx.alloc (.cells #[.int .i64 0, .int .i64 0] 81)))
   refine goes_ Try.func160 zq3 rfl #[] (by rfl) rfl rfl (by simp only [List.map_toArray, List.map_cons, List.map_nil]) ?_
   with_reducible refine (hcon_).mono ?_
   rintro e w0 ⟨rfl, hb⟩
   refine ⟨_, rfl, ?_⟩
   clear hcon_
   replace mT := blk_below mT hb
   replace m6 := blk_below m6 hb
   replace m7 := blk_below m7 hb
   replace m9 := blk_below m9 hb
   replace m10 := blk_below m10 hb
   replace m11 := blk_below m11 hb
   replace mB := below_step mB hb
   clear hb
   refine hK.out _ _ ⟨((blk_cell m9 0).trans rfl), ((blk_cell m9 1).trans rfl)⟩ (fun hHeld => ?_)
   clear hK K
   refine norm_ zq28 ?_
   refine ztz (i := 3) (N := some 16) zq3 hHeld ?_
   exact norm_ zq30 (hCont (Wx.heap.size) _ ⟨mT, m6, m7, m9, m10, m11, mB, hG11, hn_T_11, hn_6_11, hn_7_11, hn_9_11, hn_10_11⟩)
 rintro g11 Wg ⟨mT, m6, m7, m9, m10, m11, mB, hG11, hn_T_11, hn_6_11, hn_7_11, hn_9_11, hn_10_11⟩
 have hHeld : (Wg.cell? ⟨g9, 0, none⟩ = some (.int .i64 hd) ∧ Wg.cell? ⟨g9, 1, none⟩ = some (.int .i64 layer)) := ⟨((blk_cell m9 0).trans rfl), ((blk_cell m9 1).trans rfl)⟩
 refine norm_ (a' := ?_) ?_ ?_
 rotate_left
 ·simp only [putAll, Act.put, List.setIfInBounds_toArray, List.set_cons_zero, List.set_cons_succ]
  rfl
 refine last_ (i := 5) (N := none) #[true, true, true, true, true, true] rfl rfl zq3 (by decide) (fun K hK => ?_)
 have hf0_ := blk_frozen m11 0
 have hc0_ := (blk_cell m11 0).trans rfl
 have hf1_ := blk_frozen m11 1
 have hc1_ := (blk_cell m11 1).trans rfl
 refine skip_ (w1 := ?_) (by rfl) rfl ?_ ?_
 rotate_left
 ·go_simp
  rfl
 clear hf0_ hc0_ hf1_ hc1_
 replace mT : Blk (Wg.setCell ⟨g11, 0, none⟩ (.int .i64 d0)) b #[.int .i64 se.nx, .int .i64 se.ny, .int .i64 se.cell, .int .i64 se.slot, .int .i64 se.slots, .int .i64 se.layers, .int .i64 se.most, .slice A7 se.shores.length c7, .slice A8 se.currents.length c8, .int .i64 v.speed, .int .i64 v.dive, .int .i64 v.use.f0, .int .i64 v.use.f1, .int .i64 v.drift.f0, .int .i64 v.drift.f1, .int .i64 v.reserve] 120 := blk_far (p := ⟨g11, 0, none⟩) mT hn_T_11 _
 replace m6 : Blk (Wg.setCell ⟨g11, 0, none⟩ (.int .i64 d0)) g6 #[.int .i64 x.f0.f0, .int .i64 x.f0.f1, .int .i64 x.f1.f0, .int .i64 x.f1.f1] 29 := blk_far (p := ⟨g11, 0, none⟩) m6 hn_6_11 _
 replace m7 : Blk (Wg.setCell ⟨g11, 0, none⟩ (.int .i64 d0)) g7 #[.int .i64 rb.f0.f0, .int .i64 rb.f0.f1, .int .i64 rb.f1.f0, .int .i64 rb.f1.f1] 29 := blk_far (p := ⟨g11, 0, none⟩) m7 hn_7_11 _
 replace m9 : Blk (Wg.setCell ⟨g11, 0, none⟩ (.int .i64 d0)) g9 #[.int .i64 hd, .int .i64 layer] 76 := blk_far (p := ⟨g11, 0, none⟩) m9 hn_9_11 _
 replace m10 : Blk (Wg.setCell ⟨g11, 0, none⟩ (.int .i64 d0)) g10 #[.int .i64 0, .int .i64 0, .int .i64 0, .int .i64 0] 29 := blk_far (p := ⟨g11, 0, none⟩) m10 hn_10_11 _
 replace m11 : Blk (Wg.setCell ⟨g11, 0, none⟩ (.int .i64 d0)) g11 #[.int .i64 d0, .int .i64 0] 81 := blk_put m11 0 _ rfl
 replace mB : Below w.heap.size w (Wg.setCell ⟨g11, 0, none⟩ (.int .i64 d0)) := mB.setCell (p := ⟨g11, 0, none⟩) hG11 _
 replace mT : Blk ((Wg.setCell ⟨g11, 0, none⟩ (.int .i64 d0)).setCell ⟨g11, 1, none⟩ (.int .i64 d1)) b #[.int .i64 se.nx, .int .i64 se.ny, .int .i64 se.cell, .int .i64 se.slot, .int .i64 se.slots, .int .i64 se.layers, .int .i64 se.most, .slice A7 se.shores.length c7, .slice A8 se.currents.length c8, .int .i64 v.speed, .int .i64 v.dive, .int .i64 v.use.f0, .int .i64 v.use.f1, .int .i64 v.drift.f0, .int .i64 v.drift.f1, .int .i64 v.reserve] 120 := blk_far (p := ⟨g11, 1, none⟩) mT hn_T_11 _
 replace m6 : Blk ((Wg.setCell ⟨g11, 0, none⟩ (.int .i64 d0)).setCell ⟨g11, 1, none⟩ (.int .i64 d1)) g6 #[.int .i64 x.f0.f0, .int .i64 x.f0.f1, .int .i64 x.f1.f0, .int .i64 x.f1.f1] 29 := blk_far (p := ⟨g11, 1, none⟩) m6 hn_6_11 _
 replace m7 : Blk ((Wg.setCell ⟨g11, 0, none⟩ (.int .i64 d0)).setCell ⟨g11, 1, none⟩ (.int .i64 d1)) g7 #[.int .i64 rb.f0.f0, .int .i64 rb.f0.f1, .int .i64 rb.f1.f0, .int .i64 rb.f1.f1] 29 := blk_far (p := ⟨g11, 1, none⟩) m7 hn_7_11 _
 replace m9 : Blk ((Wg.setCell ⟨g11, 0, none⟩ (.int .i64 d0)).setCell ⟨g11, 1, none⟩ (.int .i64 d1)) g9 #[.int .i64 hd, .int .i64 layer] 76 := blk_far (p := ⟨g11, 1, none⟩) m9 hn_9_11 _
 replace m10 : Blk ((Wg.setCell ⟨g11, 0, none⟩ (.int .i64 d0)).setCell ⟨g11, 1, none⟩ (.int .i64 d1)) g10 #[.int .i64 0, .int .i64 0, .int .i64 0, .int .i64 0] 29 := blk_far (p := ⟨g11, 1, none⟩) m10 hn_10_11 _
 replace m11 : Blk ((Wg.setCell ⟨g11, 0, none⟩ (.int .i64 d0)).setCell ⟨g11, 1, none⟩ (.int .i64 d1)) g11 #[.int .i64 d0, .int .i64 d1] 81 := blk_put m11 1 _ rfl
 replace mB : Below w.heap.size w ((Wg.setCell ⟨g11, 0, none⟩ (.int .i64 d0)).setCell ⟨g11, 1, none⟩ (.int .i64 d1)) := mB.setCell (p := ⟨g11, 1, none⟩) hG11 _
 refine hK.out _ _ ?_
 clear hK K
 refine done_ zq3 ?_
 try clear hHeld
 generalize hW_ : ((Wg.setCell ⟨g11, 0, none⟩ (.int .i64 d0)).setCell ⟨g11, 1, none⟩ (.int .i64 d1)) = W2 at mT m6 m7 m9 m10 m11 mB ⊢
 clear hW_
 have hs_W2 : w.heap.size ≤ W2.heap.size := mB.size
 go_wp2_with fail
 replace mT := blk_drew mT
 replace m6 := blk_drew m6
 replace m7 := blk_drew m7
 replace m9 := blk_drew m9
 replace m10 := blk_drew m10
 replace m11 := blk_drew m11
 replace mB := below_drew1 mB
 refine start_ (n := 15) (S := fun w' => w'.cell? ⟨g7, 0, none⟩ = some (.int .i64 rb.f0.f0) ∧ w'.cell? ⟨g7, 1, none⟩ = some (.int .i64 rb.f0.f1) ∧ w'.cell? ⟨g7, 2, none⟩ = some (.int .i64 rb.f1.f0) ∧ w'.cell? ⟨g7, 3, none⟩ = some (.int .i64 rb.f1.f1) ∧ w'.cell? ⟨g9, 0, none⟩ = some (.int .i64 hd) ∧ w'.cell? ⟨g9, 1, none⟩ = some (.int .i64 layer) ∧ w'.cell? ⟨b, 10, none⟩ = some (.int .i64 v.dive)) (ds := [14]) #[false, false, false, false, false, false, false, false, false, false, false, false, false, false, false] zq3 rfl rfl ⟨((blk_cell m7 0).trans rfl), ((blk_cell m7 1).trans rfl), ((blk_cell m7 2).trans rfl), ((blk_cell m7 3).trans rfl), ((blk_cell m9 0).trans rfl), ((blk_cell m9 1).trans rfl), ((blk_cell mT 10).trans rfl)⟩ (fun hHeld => ?_)
 generalize hWd : World.drew _ = Wx at mT m6 m7 m9 m10 m11 mB hHeld ⊢
 clear hWd
 refine zpz (i := 0) (N := some 17) zq3 ?_
 refine zpz (i := 2) (N := some 19) zq3 ?_
 refine zpz (i := 4) (N := some 21) zq3 ?_
 refine zpz (i := 5) (N := some 22) zq3 ?_
 refine zpz (i := 6) (N := some 23) zq3 ?_
 refine zpz (i := 7) (N := some 24) zq3 ?_
 refine zpz (i := 8) (N := some 25) zq3 ?_
 refine zpz (i := 9) (N := some 26) zq3 ?_
 refine ztz (i := 1) (N := some 18) zq3 hHeld ?_
 refine ztz (i := 3) (N := some 20) zq3 hHeld ?_
 refine ztz (i := 10) (N := some 27) zq3 hHeld ?_
 refine zpz (i := 11) (N := some 28) zq3 ?_
 refine join_ (σ := Nat) 1 #[true, true, true, true, true, true, true, true, true, true, true, true, true, true, false] (fun s => [(29, .agg #[.int .i64 y.f0.f0, .int .i64 y.f0.f1, .int .i64 y.f1.f0, .int .i64 y.f1.f1]), (12, .pointer (some ⟨s, 0, none⟩))]) (fun s w' => Blk w' b #[.int .i64 se.nx, .int .i64 se.ny, .int .i64 se.cell, .int .i64 se.slot, .int .i64 se.slots, .int .i64 se.layers, .int .i64 se.most, .slice A7 se.shores.length c7, .slice A8 se.currents.length c8, .int .i64 v.speed, .int .i64 v.dive, .int .i64 v.use.f0, .int .i64 v.use.f1, .int .i64 v.drift.f0, .int .i64 v.drift.f1, .int .i64 v.reserve] 120 ∧ Blk w' g6 #[.int .i64 x.f0.f0, .int .i64 x.f0.f1, .int .i64 x.f1.f0, .int .i64 x.f1.f1] 29 ∧ Blk w' g7 #[.int .i64 rb.f0.f0, .int .i64 rb.f0.f1, .int .i64 rb.f1.f0, .int .i64 rb.f1.f1] 29 ∧ Blk w' g9 #[.int .i64 hd, .int .i64 layer] 76 ∧ Blk w' g10 #[.int .i64 0, .int .i64 0, .int .i64 0, .int .i64 0] 29 ∧ Blk w' g11 #[.int .i64 d0, .int .i64 d1] 81 ∧ Blk w' (s) #[.int .i64 0, .int .i64 0, .int .i64 0, .int .i64 0] 29 ∧ Below w.heap.size w w' ∧ w.heap.size ≤ s ∧ b ≠ s ∧ g6 ≠ s ∧ g7 ≠ s ∧ g9 ≠ s ∧ g10 ≠ s ∧ g11 ≠ s) ?_ ?_
 rotate_left
 ·intro hCont
  refine two_ (i := 12) (j := 13) (Ni := some 29) (Nj := some 12) #[true, true, true, true, true, true, true, true, true, true, true, true, true, false, false] #[true, true, true, true, true, true, true, true, true, true, true, true, false, true, false] rfl rfl rfl rfl zq3 (by decide) (by decide) (fun K hK => ?_) (fun K hK => ?_)
  ·skip
   have hcon_ := kA _ w1 (Wx) (hT.below mB)
   refine goes_ Try.func54 zq3 rfl #[.pointer (some ⟨b, 0, none⟩), .agg #[.int .i64 rb.f0.f0, .int .i64 rb.f0.f1, .int .i64 rb.f1.f0, .int .i64 rb.f1.f1], .int .i64 layer, .int .i64 t, .int .i64 (wrap64 (t + v.dive))] (by rfl) rfl rfl zq24 ?_
   with_reducible refine (hcon_).mono ?_
   rintro e w12 ⟨rfl, hb⟩
   refine ⟨_, rfl, ?_⟩
   clear hcon_
   replace mT := blk_below mT hb
   replace m6 := blk_below m6 hb
   replace m7 := blk_below m7 hb
   replace m9 := blk_below m9 hb
   replace m10 := blk_below m10 hb
   replace m11 := blk_below m11 hb
   replace mB := below_step mB hb
   clear hb
   refine hK.out _ _ ⟨((blk_cell m7 0).trans rfl), ((blk_cell m7 1).trans rfl), ((blk_cell m7 2).trans rfl), ((blk_cell m7 3).trans rfl), ((blk_cell m9 0).trans rfl), ((blk_cell m9 1).trans rfl), ((blk_cell mT 10).trans rfl)⟩ (fun hHeld => ?_)
   clear hK K
   refine norm_ zq31 ?_
   refine one_ (i := 13) (N := some 12) #[true, true, true, true, true, true, true, true, true, true, true, true, true, true, false] rfl rfl zq3 (by decide) (fun K hK => ?_)
   have hn_T_12 : b ≠ w12.heap.size := by have h_ := blk_lt mT; omega
   have hn_6_12 : g6 ≠ w12.heap.size := by have h_ := blk_lt m6; omega
   have hn_7_12 : g7 ≠ w12.heap.size := by have h_ := blk_lt m7; omega
   have hn_9_12 : g9 ≠ w12.heap.size := by have h_ := blk_lt m9; omega
   have hn_10_12 : g10 ≠ w12.heap.size := by have h_ := blk_lt m10; omega
   have hn_11_12 : g11 ≠ w12.heap.size := by have h_ := blk_lt m11; omega
   have hG12 : w.heap.size ≤ w12.heap.size := by have h_ := mB.size; omega
   replace mT := blk_alloc mT (.cells #[.int .i64 0, .int .i64 0, .int .i64 0, .int .i64 0] 29)
   replace m6 := blk_alloc m6 (.cells #[.int .i64 0, .int .i64 0, .int .i64 0, .int .i64 0] 29)
   replace m7 := blk_alloc m7 (.cells #[.int .i64 0, .int .i64 0, .int .i64 0, .int .i64 0] 29)
   replace m9 := blk_alloc m9 (.cells #[.int .i64 0, .int .i64 0, .int .i64 0, .int .i64 0] 29)
   replace m10 := blk_alloc m10 (.cells #[.int .i64 0, .int .i64 0, .int .i64 0, .int .i64 0] 29)
   replace m11 := blk_alloc m11 (.cells #[.int .i64 0, .int .i64 0, .int .i64 0, .int .i64 0] 29)
   have m12 : Blk (w12.alloc (.cells #[.int .i64 0, .int .i64 0, .int .i64 0, .int .i64 0] 29)) (w12.heap.size) #[.int .i64 0, .int .i64 0, .int .i64 0, .int .i64 0] 29 := by have h_ := blk_new w12 (.cells #[.int .i64 0, .int .i64 0, .int .i64 0, .int .i64 0] 29); first | exact h_ | (simp only [World.size_alloc] at h_; exact h_)
   replace mB := below_alloc mB (.cells #[.int .i64 0, .int .i64 0, .int .i64 0, .int .i64 0] 29)
   refine value_ (w1 := ?_) (v := ?_) (by rfl) rfl ?_ ?_
   rotate_left 2
   ·go_simp
    constructor
    ·rfl
    ·rfl
   refine hK.out _ _ ⟨((blk_cell m7 0).trans rfl), ((blk_cell m7 1).trans rfl), ((blk_cell m7 2).trans rfl), ((blk_cell m7 3).trans rfl), ((blk_cell m9 0).trans rfl), ((blk_cell m9 1).trans rfl), ((blk_cell mT 10).trans rfl)⟩ (fun hHeld => ?_)
   clear hK K
   refine norm_ zq32 ?_
   exact norm_ zq30 (hCont (w12.heap.size) _ ⟨mT, m6, m7, m9, m10, m11, m12, mB, hG12, hn_T_12, hn_6_12, hn_7_12, hn_9_12, hn_10_12, hn_11_12⟩)
  ·skip
   have hn_T_12 : b ≠ Wx.heap.size := by have h_ := blk_lt mT; omega
   have hn_6_12 : g6 ≠ Wx.heap.size := by have h_ := blk_lt m6; omega
   have hn_7_12 : g7 ≠ Wx.heap.size := by have h_ := blk_lt m7; omega
   have hn_9_12 : g9 ≠ Wx.heap.size := by have h_ := blk_lt m9; omega
   have hn_10_12 : g10 ≠ Wx.heap.size := by have h_ := blk_lt m10; omega
   have hn_11_12 : g11 ≠ Wx.heap.size := by have h_ := blk_lt m11; omega
   have hG12 : w.heap.size ≤ Wx.heap.size := by have h_ := mB.size; omega
   replace mT := blk_alloc mT (.cells #[.int .i64 0, .int .i64 0, .int .i64 0, .int .i64 0] 29)
   replace m6 := blk_alloc m6 (.cells #[.int .i64 0, .int .i64 0, .int .i64 0, .int .i64 0] 29)
   replace m7 := blk_alloc m7 (.cells #[.int .i64 0, .int .i64 0, .int .i64 0, .int .i64 0] 29)
   replace m9 := blk_alloc m9 (.cells #[.int .i64 0, .int .i64 0, .int .i64 0, .int .i64 0] 29)
   replace m10 := blk_alloc m10 (.cells #[.int .i64 0, .int .i64 0, .int .i64 0, .int .i64 0] 29)
   replace m11 := blk_alloc m11 (.cells #[.int .i64 0, .int .i64 0, .int .i64 0, .int .i64 0] 29)
   have m12 : Blk (Wx.alloc (.cells #[.int .i64 0, .int .i64 0, .int .i64 0, .int .i64 0] 29)) (Wx.heap.size) #[.int .i64 0, .int .i64 0, .int .i64 0, .int .i64 0] 29 := by have h_ := blk_new Wx (.cells #[.int .i64 0, .int .i64 0, .int .i64 0, .int .i64 0] 29); first | exact h_ | (simp only [World.size_alloc] at h_; exact h_)
   replace mB := below_alloc mB (.cells #[.int .i64 0, .int .i64 0, .int .i64 0, .int .i64 0] 29)
   refine value_ (w1 := ?_) (v := ?_) (by rfl) rfl ?_ ?_
   rotate_left 2
   ·go_simp
    constructor
    ·rfl
    ·rfl
   refine hK.out _ _ ⟨((blk_cell m7 0).trans rfl), ((blk_cell m7 1).trans rfl), ((blk_cell m7 2).trans rfl), ((blk_cell m7 3).trans rfl), ((blk_cell m9 0).trans rfl), ((blk_cell m9 1).trans rfl), ((blk_cell mT 10).trans rfl)⟩ (fun hHeld => ?_)
   clear hK K
   refine norm_ zq32 ?_
   refine one_ (i := 12) (N := some 29) #[true, true, true, true, true, true, true, true, true, true, true, true, true, true, false] rfl rfl zq3 (by decide) (fun K hK => ?_)
   have hcon_ := kA _ w1 ((Wx.alloc (.cells #[.int .i64 0, .int .i64 0, .int .i64 0, .int .i64 0] 29))) (hT.below mB)
   refine goes_ Try.func54 zq3 rfl #[.pointer (some ⟨b, 0, none⟩), .agg #[.int .i64 rb.f0.f0, .int .i64 rb.f0.f1, .int .i64 rb.f1.f0, .int .i64 rb.f1.f1], .int .i64 layer, .int .i64 t, .int .i64 (wrap64 (t + v.dive))] (by rfl) rfl rfl zq24 ?_
   with_reducible refine (hcon_).mono ?_
   rintro e w12 ⟨rfl, hb⟩
   refine ⟨_, rfl, ?_⟩
   clear hcon_
   replace mT := blk_below mT hb
   replace m6 := blk_below m6 hb
   replace m7 := blk_below m7 hb
   replace m9 := blk_below m9 hb
   replace m10 := blk_below m10 hb
   replace m11 := blk_below m11 hb
   replace m12 := blk_below m12 hb
   replace mB := below_step mB hb
   clear hb
   refine hK.out _ _ ⟨((blk_cell m7 0).trans rfl), ((blk_cell m7 1).trans rfl), ((blk_cell m7 2).trans rfl), ((blk_cell m7 3).trans rfl), ((blk_cell m9 0).trans rfl), ((blk_cell m9 1).trans rfl), ((blk_cell mT 10).trans rfl)⟩ (fun hHeld => ?_)
   clear hK K
   refine norm_ zq31 ?_
   exact norm_ zq30 (hCont (Wx.heap.size) _ ⟨mT, m6, m7, m9, m10, m11, m12, mB, hG12, hn_T_12, hn_6_12, hn_7_12, hn_9_12, hn_10_12, hn_11_12⟩)
 rintro g12 Wg ⟨mT, m6, m7, m9, m10, m11, m12, mB, hG12, hn_T_12, hn_6_12, hn_7_12, hn_9_12, hn_10_12, hn_11_12⟩
 have hHeld : (Wg.cell? ⟨g7, 0, none⟩ = some (.int .i64 rb.f0.f0) ∧ Wg.cell? ⟨g7, 1, none⟩ = some (.int .i64 rb.f0.f1) ∧ Wg.cell? ⟨g7, 2, none⟩ = some (.int .i64 rb.f1.f0) ∧ Wg.cell? ⟨g7, 3, none⟩ = some (.int .i64 rb.f1.f1) ∧ Wg.cell? ⟨g9, 0, none⟩ = some (.int .i64 hd) ∧ Wg.cell? ⟨g9, 1, none⟩ = some (.int .i64 layer) ∧ Wg.cell? ⟨b, 10, none⟩ = some (.int .i64 v.dive)) := ⟨((blk_cell m7 0).trans rfl), ((blk_cell m7 1).trans rfl), ((blk_cell m7 2).trans rfl), ((blk_cell m7 3).trans rfl), ((blk_cell m9 0).trans rfl), ((blk_cell m9 1).trans rfl), ((blk_cell mT 10).trans rfl)⟩
 refine norm_ (a' := ?_) ?_ ?_
 rotate_left
 ·simp only [putAll, Act.put, List.setIfInBounds_toArray, List.set_cons_zero, List.set_cons_succ]
  rfl
 refine last_ (i := 14) (N := none) #[true, true, true, true, true, true, true, true, true, true, true, true, true, true, true] rfl rfl zq3 (by decide) (fun K hK => ?_)
 have hf0_ := blk_frozen m12 0
 have hc0_ := (blk_cell m12 0).trans rfl
 have hf1_ := blk_frozen m12 1
 have hc1_ := (blk_cell m12 1).trans rfl
 have hf2_ := blk_frozen m12 2
 have hc2_ := (blk_cell m12 2).trans rfl
 have hf3_ := blk_frozen m12 3
 have hc3_ := (blk_cell m12 3).trans rfl
 refine skip_ (w1 := ?_) (by rfl) rfl ?_ ?_
 rotate_left
 ·go_simp
  rfl
 clear hf0_ hc0_ hf1_ hc1_ hf2_ hc2_ hf3_ hc3_
 replace mT : Blk (Wg.setCell ⟨g12, 0, none⟩ (.int .i64 y.f0.f0)) b #[.int .i64 se.nx, .int .i64 se.ny, .int .i64 se.cell, .int .i64 se.slot, .int .i64 se.slots, .int .i64 se.layers, .int .i64 se.most, .slice A7 se.shores.length c7, .slice A8 se.currents.length c8, .int .i64 v.speed, .int .i64 v.dive, .int .i64 v.use.f0, .int .i64 v.use.f1, .int .i64 v.drift.f0, .int .i64 v.drift.f1, .int .i64 v.reserve] 120 := blk_far (p := ⟨g12, 0, none⟩) mT hn_T_12 _
 replace m6 : Blk (Wg.setCell ⟨g12, 0, none⟩ (.int .i64 y.f0.f0)) g6 #[.int .i64 x.f0.f0, .int .i64 x.f0.f1, .int .i64 x.f1.f0, .int .i64 x.f1.f1] 29 := blk_far (p := ⟨g12, 0, none⟩) m6 hn_6_12 _
 replace m7 : Blk (Wg.setCell ⟨g12, 0, none⟩ (.int .i64 y.f0.f0)) g7 #[.int .i64 rb.f0.f0, .int .i64 rb.f0.f1, .int .i64 rb.f1.f0, .int .i64 rb.f1.f1] 29 := blk_far (p := ⟨g12, 0, none⟩) m7 hn_7_12 _
 replace m9 : Blk (Wg.setCell ⟨g12, 0, none⟩ (.int .i64 y.f0.f0)) g9 #[.int .i64 hd, .int .i64 layer] 76 := blk_far (p := ⟨g12, 0, none⟩) m9 hn_9_12 _
 replace m10 : Blk (Wg.setCell ⟨g12, 0, none⟩ (.int .i64 y.f0.f0)) g10 #[.int .i64 0, .int .i64 0, .int .i64 0, .int .i64 0] 29 := blk_far (p := ⟨g12, 0, none⟩) m10 hn_10_12 _
 replace m11 : Blk (Wg.setCell ⟨g12, 0, none⟩ (.int .i64 y.f0.f0)) g11 #[.int .i64 d0, .int .i64 d1] 81 := blk_far (p := ⟨g12, 0, none⟩) m11 hn_11_12 _
 replace m12 : Blk (Wg.setCell ⟨g12, 0, none⟩ (.int .i64 y.f0.f0)) g12 #[.int .i64 y.f0.f0, .int .i64 0, .int .i64 0, .int .i64 0] 29 := blk_put m12 0 _ rfl
 replace mB : Below w.heap.size w (Wg.setCell ⟨g12, 0, none⟩ (.int .i64 y.f0.f0)) := mB.setCell (p := ⟨g12, 0, none⟩) hG12 _
 replace mT : Blk ((Wg.setCell ⟨g12, 0, none⟩ (.int .i64 y.f0.f0)).setCell ⟨g12, 1, none⟩ (.int .i64 y.f0.f1)) b #[.int .i64 se.nx, .int .i64 se.ny, .int .i64 se.cell, .int .i64 se.slot, .int .i64 se.slots, .int .i64 se.layers, .int .i64 se.most, .slice A7 se.shores.length c7, .slice A8 se.currents.length c8, .int .i64 v.speed, .int .i64 v.dive, .int .i64 v.use.f0, .int .i64 v.use.f1, .int .i64 v.drift.f0, .int .i64 v.drift.f1, .int .i64 v.reserve] 120 := blk_far (p := ⟨g12, 1, none⟩) mT hn_T_12 _
 replace m6 : Blk ((Wg.setCell ⟨g12, 0, none⟩ (.int .i64 y.f0.f0)).setCell ⟨g12, 1, none⟩ (.int .i64 y.f0.f1)) g6 #[.int .i64 x.f0.f0, .int .i64 x.f0.f1, .int .i64 x.f1.f0, .int .i64 x.f1.f1] 29 := blk_far (p := ⟨g12, 1, none⟩) m6 hn_6_12 _
 replace m7 : Blk ((Wg.setCell ⟨g12, 0, none⟩ (.int .i64 y.f0.f0)).setCell ⟨g12, 1, none⟩ (.int .i64 y.f0.f1)) g7 #[.int .i64 rb.f0.f0, .int .i64 rb.f0.f1, .int .i64 rb.f1.f0, .int .i64 rb.f1.f1] 29 := blk_far (p := ⟨g12, 1, none⟩) m7 hn_7_12 _
 replace m9 : Blk ((Wg.setCell ⟨g12, 0, none⟩ (.int .i64 y.f0.f0)).setCell ⟨g12, 1, none⟩ (.int .i64 y.f0.f1)) g9 #[.int .i64 hd, .int .i64 layer] 76 := blk_far (p := ⟨g12, 1, none⟩) m9 hn_9_12 _
 replace m10 : Blk ((Wg.setCell ⟨g12, 0, none⟩ (.int .i64 y.f0.f0)).setCell ⟨g12, 1, none⟩ (.int .i64 y.f0.f1)) g10 #[.int .i64 0, .int .i64 0, .int .i64 0, .int .i64 0] 29 := blk_far (p := ⟨g12, 1, none⟩) m10 hn_10_12 _
 replace m11 : Blk ((Wg.setCell ⟨g12, 0, none⟩ (.int .i64 y.f0.f0)).setCell ⟨g12, 1, none⟩ (.int .i64 y.f0.f1)) g11 #[.int .i64 d0, .int .i64 d1] 81 := blk_far (p := ⟨g12, 1, none⟩) m11 hn_11_12 _
 replace m12 : Blk ((Wg.setCell ⟨g12, 0, none⟩ (.int .i64 y.f0.f0)).setCell ⟨g12, 1, none⟩ (.int .i64 y.f0.f1)) g12 #[.int .i64 y.f0.f0, .int .i64 y.f0.f1, .int .i64 0, .int .i64 0] 29 := blk_put m12 1 _ rfl
 replace mB : Below w.heap.size w ((Wg.setCell ⟨g12, 0, none⟩ (.int .i64 y.f0.f0)).setCell ⟨g12, 1, none⟩ (.int .i64 y.f0.f1)) := mB.setCell (p := ⟨g12, 1, none⟩) hG12 _
 replace mT : Blk (((Wg.setCell ⟨g12, 0, none⟩ (.int .i64 y.f0.f0)).setCell ⟨g12, 1, none⟩ (.int .i64 y.f0.f1)).setCell ⟨g12, 2, none⟩ (.int .i64 y.f1.f0)) b #[.int .i64 se.nx, .int .i64 se.ny, .int .i64 se.cell, .int .i64 se.slot, .int .i64 se.slots, .int .i64 se.layers, .int .i64 se.most, .slice A7 se.shores.length c7, .slice A8 se.currents.length c8, .int .i64 v.speed, .int .i64 v.dive, .int .i64 v.use.f0, .int .i64 v.use.f1, .int .i64 v.drift.f0, .int .i64 v.drift.f1, .int .i64 v.reserve] 120 := blk_far (p := ⟨g12, 2, none⟩) mT hn_T_12 _
 replace m6 : Blk (((Wg.setCell ⟨g12, 0, none⟩ (.int .i64 y.f0.f0)).setCell ⟨g12, 1, none⟩ (.int .i64 y.f0.f1)).setCell ⟨g12, 2, none⟩ (.int .i64 y.f1.f0)) g6 #[.int .i64 x.f0.f0, .int .i64 x.f0.f1, .int .i64 x.f1.f0, .int .i64 x.f1.f1] 29 := blk_far (p := ⟨g12, 2, none⟩) m6 hn_6_12 _
 replace m7 : Blk (((Wg.setCell ⟨g12, 0, none⟩ (.int .i64 y.f0.f0)).setCell ⟨g12, 1, none⟩ (.int .i64 y.f0.f1)).setCell ⟨g12, 2, none⟩ (.int .i64 y.f1.f0)) g7 #[.int .i64 rb.f0.f0, .int .i64 rb.f0.f1, .int .i64 rb.f1.f0, .int .i64 rb.f1.f1] 29 := blk_far (p := ⟨g12, 2, none⟩) m7 hn_7_12 _
 replace m9 : Blk (((Wg.setCell ⟨g12, 0, none⟩ (.int .i64 y.f0.f0)).setCell ⟨g12, 1, none⟩ (.int .i64 y.f0.f1)).setCell ⟨g12, 2, none⟩ (.int .i64 y.f1.f0)) g9 #[.int .i64 hd, .int .i64 layer] 76 := blk_far (p := ⟨g12, 2, none⟩) m9 hn_9_12 _
 replace m10 : Blk (((Wg.setCell ⟨g12, 0, none⟩ (.int .i64 y.f0.f0)).setCell ⟨g12, 1, none⟩ (.int .i64 y.f0.f1)).setCell ⟨g12, 2, none⟩ (.int .i64 y.f1.f0)) g10 #[.int .i64 0, .int .i64 0, .int .i64 0, .int .i64 0] 29 := blk_far (p := ⟨g12, 2, none⟩) m10 hn_10_12 _
 replace m11 : Blk (((Wg.setCell ⟨g12, 0, none⟩ (.int .i64 y.f0.f0)).setCell ⟨g12, 1, none⟩ (.int .i64 y.f0.f1)).setCell ⟨g12, 2, none⟩ (.int .i64 y.f1.f0)) g11 #[.int .i64 d0, .int .i64 d1] 81 := blk_far (p := ⟨g12, 2, none⟩) m11 hn_11_12 _
 replace m12 : Blk (((Wg.setCell ⟨g12, 0, none⟩ (.int .i64 y.f0.f0)).setCell ⟨g12, 1, none⟩ (.int .i64 y.f0.f1)).setCell ⟨g12, 2, none⟩ (.int .i64 y.f1.f0)) g12 #[.int .i64 y.f0.f0, .int .i64 y.f0.f1, .int .i64 y.f1.f0, .int .i64 0] 29 := blk_put m12 2 _ rfl
 replace mB : Below w.heap.size w (((Wg.setCell ⟨g12, 0, none⟩ (.int .i64 y.f0.f0)).setCell ⟨g12, 1, none⟩ (.int .i64 y.f0.f1)).setCell ⟨g12, 2, none⟩ (.int .i64 y.f1.f0)) := mB.setCell (p := ⟨g12, 2, none⟩) hG12 _
 replace mT : Blk ((((Wg.setCell ⟨g12, 0, none⟩ (.int .i64 y.f0.f0)).setCell ⟨g12, 1, none⟩ (.int .i64 y.f0.f1)).setCell ⟨g12, 2, none⟩ (.int .i64 y.f1.f0)).setCell ⟨g12, 3, none⟩ (.int .i64 y.f1.f1)) b #[.int .i64 se.nx, .int .i64 se.ny, .int .i64 se.cell, .int .i64 se.slot, .int .i64 se.slots, .int .i64 se.layers, .int .i64 se.most, .slice A7 se.shores.length c7, .slice A8 se.currents.length c8, .int .i64 v.speed, .int .i64 v.dive, .int .i64 v.use.f0, .int .i64 v.use.f1, .int .i64 v.drift.f0, .int .i64 v.drift.f1, .int .i64 v.reserve] 120 := blk_far (p := ⟨g12, 3, none⟩) mT hn_T_12 _
 replace m6 : Blk ((((Wg.setCell ⟨g12, 0, none⟩ (.int .i64 y.f0.f0)).setCell ⟨g12, 1, none⟩ (.int .i64 y.f0.f1)).setCell ⟨g12, 2, none⟩ (.int .i64 y.f1.f0)).setCell ⟨g12, 3, none⟩ (.int .i64 y.f1.f1)) g6 #[.int .i64 x.f0.f0, .int .i64 x.f0.f1, .int .i64 x.f1.f0, .int .i64 x.f1.f1] 29 := blk_far (p := ⟨g12, 3, none⟩) m6 hn_6_12 _
 replace m7 : Blk ((((Wg.setCell ⟨g12, 0, none⟩ (.int .i64 y.f0.f0)).setCell ⟨g12, 1, none⟩ (.int .i64 y.f0.f1)).setCell ⟨g12, 2, none⟩ (.int .i64 y.f1.f0)).setCell ⟨g12, 3, none⟩ (.int .i64 y.f1.f1)) g7 #[.int .i64 rb.f0.f0, .int .i64 rb.f0.f1, .int .i64 rb.f1.f0, .int .i64 rb.f1.f1] 29 := blk_far (p := ⟨g12, 3, none⟩) m7 hn_7_12 _
 replace m9 : Blk ((((Wg.setCell ⟨g12, 0, none⟩ (.int .i64 y.f0.f0)).setCell ⟨g12, 1, none⟩ (.int .i64 y.f0.f1)).setCell ⟨g12, 2, none⟩ (.int .i64 y.f1.f0)).setCell ⟨g12, 3, none⟩ (.int .i64 y.f1.f1)) g9 #[.int .i64 hd, .int .i64 layer] 76 := blk_far (p := ⟨g12, 3, none⟩) m9 hn_9_12 _
 replace m10 : Blk ((((Wg.setCell ⟨g12, 0, none⟩ (.int .i64 y.f0.f0)).setCell ⟨g12, 1, none⟩ (.int .i64 y.f0.f1)).setCell ⟨g12, 2, none⟩ (.int .i64 y.f1.f0)).setCell ⟨g12, 3, none⟩ (.int .i64 y.f1.f1)) g10 #[.int .i64 0, .int .i64 0, .int .i64 0, .int .i64 0] 29 := blk_far (p := ⟨g12, 3, none⟩) m10 hn_10_12 _
 replace m11 : Blk ((((Wg.setCell ⟨g12, 0, none⟩ (.int .i64 y.f0.f0)).setCell ⟨g12, 1, none⟩ (.int .i64 y.f0.f1)).setCell ⟨g12, 2, none⟩ (.int .i64 y.f1.f0)).setCell ⟨g12, 3, none⟩ (.int .i64 y.f1.f1)) g11 #[.int .i64 d0, .int .i64 d1] 81 := blk_far (p := ⟨g12, 3, none⟩) m11 hn_11_12 _
 replace m12 : Blk ((((Wg.setCell ⟨g12, 0, none⟩ (.int .i64 y.f0.f0)).setCell ⟨g12, 1, none⟩ (.int .i64 y.f0.f1)).setCell ⟨g12, 2, none⟩ (.int .i64 y.f1.f0)).setCell ⟨g12, 3, none⟩ (.int .i64 y.f1.f1)) g12 #[.int .i64 y.f0.f0, .int .i64 y.f0.f1, .int .i64 y.f1.f0, .int .i64 y.f1.f1] 29 := blk_put m12 3 _ rfl
 replace mB : Below w.heap.size w ((((Wg.setCell ⟨g12, 0, none⟩ (.int .i64 y.f0.f0)).setCell ⟨g12, 1, none⟩ (.int .i64 y.f0.f1)).setCell ⟨g12, 2, none⟩ (.int .i64 y.f1.f0)).setCell ⟨g12, 3, none⟩ (.int .i64 y.f1.f1)) := mB.setCell (p := ⟨g12, 3, none⟩) hG12 _
 refine hK.out _ _ ?_
 clear hK K
 refine done_ zq3 ?_
 try clear hHeld
 generalize hW_ : ((((Wg.setCell ⟨g12, 0, none⟩ (.int .i64 y.f0.f0)).setCell ⟨g12, 1, none⟩ (.int .i64 y.f0.f1)).setCell ⟨g12, 2, none⟩ (.int .i64 y.f1.f0)).setCell ⟨g12, 3, none⟩ (.int .i64 y.f1.f1)) = W3 at mT m6 m7 m9 m10 m11 m12 mB ⊢
 clear hW_
 have hs_W3 : w.heap.size ≤ W3.heap.size := mB.size
 go_wp2_with fail
 replace mT := blk_drew mT
 replace m6 := blk_drew m6
 replace m7 := blk_drew m7
 replace m9 := blk_drew m9
 replace m10 := blk_drew m10
 replace m11 := blk_drew m11
 replace m12 := blk_drew m12
 replace mB := below_drew1 mB
 refine start_ (n := 30) (S := fun w' => w'.cell? ⟨g6, 0, none⟩ = some (.int .i64 x.f0.f0) ∧ w'.cell? ⟨g6, 1, none⟩ = some (.int .i64 x.f0.f1) ∧ w'.cell? ⟨g6, 2, none⟩ = some (.int .i64 x.f1.f0) ∧ w'.cell? ⟨g6, 3, none⟩ = some (.int .i64 x.f1.f1) ∧ w'.cell? ⟨g11, 0, none⟩ = some (.int .i64 d0) ∧ w'.cell? ⟨g11, 1, none⟩ = some (.int .i64 d1) ∧ w'.cell? ⟨g12, 0, none⟩ = some (.int .i64 y.f0.f0) ∧ w'.cell? ⟨g12, 1, none⟩ = some (.int .i64 y.f0.f1) ∧ w'.cell? ⟨g12, 2, none⟩ = some (.int .i64 y.f1.f0) ∧ w'.cell? ⟨g12, 3, none⟩ = some (.int .i64 y.f1.f1) ∧ w'.cell? ⟨b, 9, none⟩ = some (.int .i64 v.speed)) (ds := [29]) #[false, false, false, false, false, false, false, false, false, false, false, false, false, false, false, false, false, false, false, false, false, false, false, false, false, false, false, false, false, false] zq3 rfl rfl ⟨((blk_cell m6 0).trans rfl), ((blk_cell m6 1).trans rfl), ((blk_cell m6 2).trans rfl), ((blk_cell m6 3).trans rfl), ((blk_cell m11 0).trans rfl), ((blk_cell m11 1).trans rfl), ((blk_cell m12 0).trans rfl), ((blk_cell m12 1).trans rfl), ((blk_cell m12 2).trans rfl), ((blk_cell m12 3).trans rfl), ((blk_cell mT 9).trans rfl)⟩ (fun hHeld => ?_)
 generalize hWd : World.drew _ = Wx at mT m6 m7 m9 m10 m11 m12 mB hHeld ⊢
 clear hWd
 refine zpz (i := 0) (N := some 30) zq3 ?_
 refine zpz (i := 1) (N := some 31) zq3 ?_
 refine zpz (i := 3) (N := some 33) zq3 ?_
 refine zpz (i := 5) (N := some 35) zq3 ?_
 refine zpz (i := 6) (N := some 36) zq3 ?_
 refine zpz (i := 7) (N := some 37) zq3 ?_
 refine zpz (i := 8) (N := some 38) zq3 ?_
 refine zpz (i := 11) (N := some 41) zq3 ?_
 refine zpz (i := 14) (N := some 44) zq3 ?_
 refine zpz (i := 15) (N := some 45) zq3 ?_
 refine zpz (i := 17) (N := some 47) zq3 ?_
 refine zpz (i := 19) (N := some 49) zq3 ?_
 refine zpz (i := 20) (N := some 50) zq3 ?_
 refine zpz (i := 21) (N := some 51) zq3 ?_
 refine zpz (i := 22) (N := some 52) zq3 ?_
 refine zpz (i := 25) (N := some 55) zq3 ?_
 refine ztz (i := 2) (N := some 32) zq3 hHeld ?_
 refine ztz (i := 4) (N := some 34) zq3 hHeld ?_
 refine ztz (i := 9) (N := some 39) zq3 hHeld ?_
 refine zpz (i := 10) (N := some 40) zq3 ?_
 refine ztz (i := 12) (N := some 42) zq3 hHeld ?_
 refine ztz (i := 16) (N := some 46) zq3 hHeld ?_
 refine ztz (i := 18) (N := some 48) zq3 hHeld ?_
 refine ztz (i := 23) (N := some 53) zq3 hHeld ?_
 refine zpz (i := 24) (N := some 54) zq3 ?_
 refine ztz (i := 26) (N := some 56) zq3 hHeld ?_
 refine one_ (i := 13) (N := some 43) #[true, true, true, true, true, true, true, true, true, true, true, true, true, true, true, true, true, true, true, true, true, true, true, true, true, true, true, false, false, false] rfl rfl zq3 (by decide) (fun K hK => ?_)
 have hcon_ := kS0 _ w2 Wx (hT.below mB)
 refine goes_ Try.func161 zq3 rfl #[.pointer (some ⟨b, 0, none⟩), .agg #[.int .i64 x.f0.f0, .int .i64 x.f0.f1], .int .i64 (wrap64 (d0 * v.speed)), .agg #[.int .i64 y.f0.f0, .int .i64 y.f0.f1]] (by rfl) rfl rfl zq24 ?_
 with_reducible refine (hcon_).mono ?_
 rintro e w13 ⟨rfl, hb⟩
 refine ⟨_, rfl, ?_⟩
 clear hcon_
 replace mT := blk_below mT hb
 replace m6 := blk_below m6 hb
 replace m7 := blk_below m7 hb
 replace m9 := blk_below m9 hb
 replace m10 := blk_below m10 hb
 replace m11 := blk_below m11 hb
 replace m12 := blk_below m12 hb
 replace mB := below_step mB hb
 clear hb
 refine hK.out _ _ ⟨((blk_cell m6 0).trans rfl), ((blk_cell m6 1).trans rfl), ((blk_cell m6 2).trans rfl), ((blk_cell m6 3).trans rfl), ((blk_cell m11 0).trans rfl), ((blk_cell m11 1).trans rfl), ((blk_cell m12 0).trans rfl), ((blk_cell m12 1).trans rfl), ((blk_cell m12 2).trans rfl), ((blk_cell m12 3).trans rfl), ((blk_cell mT 9).trans rfl)⟩ (fun hHeld => ?_)
 clear hK K
 refine norm_ zq33 ?_
 refine one_ (i := 27) (N := some 57) #[true, true, true, true, true, true, true, true, true, true, true, true, true, true, true, true, true, true, true, true, true, true, true, true, true, true, true, true, false, false] rfl rfl zq3 (by decide) (fun K hK => ?_)
 have hcon_ := kS1 _ w3 w13 (hT.below mB)
 refine goes_ Try.func161 zq3 rfl #[.pointer (some ⟨b, 0, none⟩), .agg #[.int .i64 x.f1.f0, .int .i64 x.f1.f1], .int .i64 (wrap64 (d1 * v.speed)), .agg #[.int .i64 y.f1.f0, .int .i64 y.f1.f1]] (by rfl) rfl rfl zq24 ?_
 with_reducible refine (hcon_).mono ?_
 rintro e w27 ⟨rfl, hb⟩
 refine ⟨_, rfl, ?_⟩
 clear hcon_
 replace mT := blk_below mT hb
 replace m6 := blk_below m6 hb
 replace m7 := blk_below m7 hb
 replace m9 := blk_below m9 hb
 replace m10 := blk_below m10 hb
 replace m11 := blk_below m11 hb
 replace m12 := blk_below m12 hb
 replace mB := below_step mB hb
 clear hb
 refine hK.out _ _ ⟨((blk_cell m6 0).trans rfl), ((blk_cell m6 1).trans rfl), ((blk_cell m6 2).trans rfl), ((blk_cell m6 3).trans rfl), ((blk_cell m11 0).trans rfl), ((blk_cell m11 1).trans rfl), ((blk_cell m12 0).trans rfl), ((blk_cell m12 1).trans rfl), ((blk_cell m12 2).trans rfl), ((blk_cell m12 3).trans rfl), ((blk_cell mT 9).trans rfl)⟩ (fun hHeld => ?_)
 clear hK K
 refine norm_ (by show Act.put _ (some 57) _ = _; simp only [Act.put, List.setIfInBounds_toArray, List.set_cons_zero, List.set_cons_succ, i64_w, i32_w]; rfl) ?_
 refine zpz (i := 28) (N := some 58) zq3 ?_
 refine last_ (i := 29) (N := none) #[true, true, true, true, true, true, true, true, true, true, true, true, true, true, true, true, true, true, true, true, true, true, true, true, true, true, true, true, true, true] rfl rfl zq3 (by decide) (fun K hK => ?_)
 have hf0_ := blk_frozen m10 0
 have hf1_ := blk_frozen m10 1
 have hf2_ := blk_frozen m10 2
 have hf3_ := blk_frozen m10 3
 have hc0_ := (blk_cell m10 0).trans rfl
 have hc1_ := (blk_cell m10 1).trans rfl
 have hc2_ := (blk_cell m10 2).trans rfl
 have hc3_ := (blk_cell m10 3).trans rfl
 refine skip_ (w1 := ?_) (by rfl) rfl ?_ ?_
 rotate_left
 ·go_simp
  rfl
 refine hK.out _ _ ?_
 clear hK K
 refine done_ zq3 ?_
 go_wp2
 exact bodyPost_ret (results_cell_row rfl _ _ g10 29 #[.int .i64 (shiftI v.dive x.f0 (d0 * v.speed) y.f0).f0, .int .i64 (shiftI v.dive x.f0 (d0 * v.speed) y.f0).f1, .int .i64 (shiftI v.dive x.f1 (d1 * v.speed) y.f1).f0, .int .i64 (shiftI v.dive x.f1 (d1 * v.speed) y.f1).f1] (0, 0) _ rfl (blk_put (blk_put (blk_put (blk_put m10 0 (.int .i64 (shiftI v.dive x.f0 (d0 * v.speed) y.f0).f0) rfl) 1 (.int .i64 (shiftI v.dive x.f0 (d0 * v.speed) y.f0).f1) rfl) 2 (.int .i64 (shiftI v.dive x.f1 (d1 * v.speed) y.f1).f0) rfl) 3 (.int .i64 (shiftI v.dive x.f1 (d1 * v.speed) y.f1).f1) rfl) Try.underlying29 rfl zq3) rfl ⟨by rw [HR.out], (Below.setCell (p := ⟨g10, 3, none⟩) (Below.setCell (p := ⟨g10, 2, none⟩) (Below.setCell (p := ⟨g10, 1, none⟩) (Below.setCell (p := ⟨g10, 0, none⟩) mB hG10 _) hG10 _) hG10 _) hG10 _)⟩
end Go.Proofs.Ythglkoddmpicdaa.Gl
end
