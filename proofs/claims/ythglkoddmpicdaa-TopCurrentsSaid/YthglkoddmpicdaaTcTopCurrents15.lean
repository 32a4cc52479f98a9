/- Part 15 of the proof of TopCurrents: what the functions compute. No condition. -/
import Derived.Test.YthglkoddmpicdaaTcTopCurrents3
import Derived.Test.YthglkoddmpicdaaTcTopCurrents14
set_option linter.unusedVariables false
set_option linter.unusedSimpArgs false
section
/- At, as the program answers. -/
namespace Go.Proofs.Ythglkoddmpicdaa.Gl
open Go.RowKit Go.Shelf Go.Proofs.YthglkoddmpicdaaW.PrintWords Go.Proofs.YthglkoddmpicdaaW.PrintLast Go.Proofs.YthglkoddmpicdaaW.PrintMore Go.Proofs.Ythglkoddmpicdaa.Pr Go.Proofs.YthglkoddmpicdaaW.Round
set_option linter.unusedVariables false
set_option linter.unusedSimpArgs false
attribute [local go_sem] max2_int min2_int max_two min_two max_four
def AtE (s : Sea) (x : S29) (layer t u : Int) : Int := if seaE s ≠ 0 then seaE s else if boxE x ≠ 0 then 2 else if layer < 0 ∨ layer ≥ s.layers then 3 else if t < 0 ∨ t ≥ u then 2 else if (containsI s x && knownI s t u) = true then 0 else 5
def AtV (s : Sea) (x : S29) (layer t u : Int) : S29 := if AtE s x layer t u = 0 then atI s x layer t u else z29
/-- A vehicle of zeros. -/
def veh0 : Veh := ⟨0, 0, ⟨0, 0⟩, ⟨0, 0⟩, 0⟩
theorem box_two (x : S29) : boxE x = 0 ∨ boxE x = 2 := by
 unfold boxE
 cases boxB x
 ·exact .inr rfl
 ·exact .inl rfl
theorem contains_in {s : Sea} {x : S29} (hS : SeaN s) (hx : BoxOK x) (h : containsI s x = true) : InSea s x := by
 unfold containsI at h
 simp only [Bool.and_eq_true, decide_eq_true_eq] at h
 have p2 := mul_in (show 0 ≤ s.nx by have := hS.nx; omega) hS.nx.2 (show 0 ≤ s.cell by have := hS.cell; omega) hS.cell.2
 have p3 := mul_in (show 0 ≤ s.ny by have := hS.ny; omega) hS.ny.2 (show 0 ≤ s.cell by have := hS.cell; omega) hS.cell.2
 obtain ⟨⟨x0, x1, x2, x3⟩, x4, x5⟩ := hx
 unfold InSea
 omega
set_option maxRecDepth 100000 in
set_option maxHeartbeats 8000000 in
theorem At_any (s : Sea) (x : S29) (layer t u : Int) (A7 A8 : Option Addr) (c7 c8 : Nat) (w : World) (h7 : s.shores.length ≤ c7) (hC7 : Kd.C Kd.bool w A7 s.shores.length s.shores) (h8 : s.currents.length ≤ c8) (hC8 : Kd.C k33 w A8 s.currents.length s.currents) :
  Calls Try.prog 13 #[.agg #[.int .i64 s.nx, .int .i64 s.ny, .int .i64 s.cell, .int .i64 s.slot, .int .i64 s.slots, .int .i64 s.layers, .int .i64 s.most, .slice A7 s.shores.length c7, .slice A8 s.currents.length c8], .agg #[.int .i64 x.f0.f0, .int .i64 x.f0.f1, .int .i64 x.f1.f0, .int .i64 x.f1.f1], .int .i64 layer, .int .i64 t, .int .i64 u] w (RetB (.tuple #[.agg #[.int .i64 (AtV s x layer t u).f0.f0, .int .i64 (AtV s x layer t u).f0.f1, .int .i64 (AtV s x layer t u).f1.f0, .int .i64 (AtV s x layer t u).f1.f1], .int .i64 (AtE s x layer t u)]) w) := by
 have hu25 := Try.underlying25
 have hu41 := Try.underlying41
 have hu29 := Try.underlying29
 have hu33 := Try.underlying33
 have hu27 := Try.underlying27
 have hu120 := Try.underlying120
 have HE : Hid (AtE s x layer t u = if seaE s ≠ 0 then seaE s else if boxE x ≠ 0 then 2 else if layer < 0 ∨ layer ≥ s.layers then 3 else if t < 0 ∨ t ≥ u then 2 else if (containsI s x && knownI s t u) = true then 0 else 5) := Lib.hid rfl
 have HV : Hid (AtV s x layer t u = if AtE s x layer t u = 0 then atI s x layer t u else z29) := Lib.hid rfl
 go_enter Try.func13, Try.ntmps13
 go_wp2_with fail
 have m5 : Blk ((((w.alloc (.cells #[.int .i64 s.nx, .int .i64 s.ny, .int .i64 s.cell, .int .i64 s.slot, .int .i64 s.slots, .int .i64 s.layers, .int .i64 s.most, .slice A7 s.shores.length c7, .slice A8 s.currents.length c8] 25)).alloc (.cells #[.int .i64 x.f0.f0, .int .i64 x.f0.f1, .int .i64 x.f1.f0, .int .i64 x.f1.f1] 29)).alloc (.cells #[.int .i64 0, .int .i64 0, .int .i64 0, .int .i64 0] 33)).alloc (.cells #[.int .i64 s.nx, .int .i64 s.ny, .int .i64 s.cell, .int .i64 s.slot, .int .i64 s.slots, .int .i64 s.layers, .int .i64 s.most, .slice A7 s.shores.length c7, .slice A8 s.currents.length c8, .int .i64 0, .int .i64 0, .int .i64 0, .int .i64 0, .int .i64 0, .int .i64 0, .int .i64 0] 120)) (w.heap.size) #[.int .i64 s.nx, .int .i64 s.ny, .int .i64 s.cell, .int .i64 s.slot, .int .i64 s.slots, .int .i64 s.layers, .int .i64 s.most, .slice A7 s.shores.length c7, .slice A8 s.currents.length c8] 25 := (blk_alloc (blk_alloc (blk_alloc zq21 _) _) _)
 have m6 : Blk ((((w.alloc (.cells #[.int .i64 s.nx, .int .i64 s.ny, .int .i64 s.cell, .int .i64 s.slot, .int .i64 s.slots, .int .i64 s.layers, .int .i64 s.most, .slice A7 s.shores.length c7, .slice A8 s.currents.length c8] 25)).alloc (.cells #[.int .i64 x.f0.f0, .int .i64 x.f0.f1, .int .i64 x.f1.f0, .int .i64 x.f1.f1] 29)).alloc (.cells #[.int .i64 0, .int .i64 0, .int .i64 0, .int .i64 0] 33)).alloc (.cells #[.int .i64 s.nx, .int .i64 s.ny, .int .i64 s.cell, .int .i64 s.slot, .int .i64 s.slots, .int .i64 s.layers, .int .i64 s.most, .slice A7 s.shores.length c7, .slice A8 s.currents.length c8, .int .i64 0, .int .i64 0, .int .i64 0, .int .i64 0, .int .i64 0, .int .i64 0, .int .i64 0] 120)) (w.heap.size + 1) #[.int .i64 x.f0.f0, .int .i64 x.f0.f1, .int .i64 x.f1.f0, .int .i64 x.f1.f1] 29 := (blk_alloc (blk_alloc (by have h_ := blk_new (w.alloc (.cells #[.int .i64 s.nx, .int .i64 s.ny, .int .i64 s.cell, .int .i64 s.slot, .int .i64 s.slots, .int .i64 s.layers, .int .i64 s.most, .slice A7 s.shores.length c7, .slice A8 s.currents.length c8] 25)) (.cells #[.int .i64 x.f0.f0, .int .i64 x.f0.f1, .int .i64 x.f1.f0, .int .i64 x.f1.f1] 29); first | exact h_ | (simp only [World.size_alloc] at h_; exact h_)) _) _)
 have m10 : Blk ((((w.alloc (.cells #[.int .i64 s.nx, .int .i64 s.ny, .int .i64 s.cell, .int .i64 s.slot, .int .i64 s.slots, .int .i64 s.layers, .int .i64 s.most, .slice A7 s.shores.length c7, .slice A8 s.currents.length c8] 25)).alloc (.cells #[.int .i64 x.f0.f0, .int .i64 x.f0.f1, .int .i64 x.f1.f0, .int .i64 x.f1.f1] 29)).alloc (.cells #[.int .i64 0, .int .i64 0, .int .i64 0, .int .i64 0] 33)).alloc (.cells #[.int .i64 s.nx, .int .i64 s.ny, .int .i64 s.cell, .int .i64 s.slot, .int .i64 s.slots, .int .i64 s.layers, .int .i64 s.most, .slice A7 s.shores.length c7, .slice A8 s.currents.length c8, .int .i64 0, .int .i64 0, .int .i64 0, .int .i64 0, .int .i64 0, .int .i64 0, .int .i64 0] 120)) (w.heap.size + 1 + 1) #[.int .i64 0, .int .i64 0, .int .i64 0, .int .i64 0] 33 := (blk_alloc (by have h_ := blk_new ((w.alloc (.cells #[.int .i64 s.nx, .int .i64 s.ny, .int .i64 s.cell, .int .i64 s.slot, .int .i64 s.slots, .int .i64 s.layers, .int .i64 s.most, .slice A7 s.shores.length c7, .slice A8 s.currents.length c8] 25)).alloc (.cells #[.int .i64 x.f0.f0, .int .i64 x.f0.f1, .int .i64 x.f1.f0, .int .i64 x.f1.f1] 29)) (.cells #[.int .i64 0, .int .i64 0, .int .i64 0, .int .i64 0] 33); first | exact h_ | (simp only [World.size_alloc] at h_; exact h_)) _)
 have m12 : Blk ((((w.alloc (.cells #[.int .i64 s.nx, .int .i64 s.ny, .int .i64 s.cell, .int .i64 s.slot, .int .i64 s.slots, .int .i64 s.layers, .int .i64 s.most, .slice A7 s.shores.length c7, .slice A8 s.currents.length c8] 25)).alloc (.cells #[.int .i64 x.f0.f0, .int .i64 x.f0.f1, .int .i64 x.f1.f0, .int .i64 x.f1.f1] 29)).alloc (.cells #[.int .i64 0, .int .i64 0, .int .i64 0, .int .i64 0] 33)).alloc (.cells #[.int .i64 s.nx, .int .i64 s.ny, .int .i64 s.cell, .int .i64 s.slot, .int .i64 s.slots, .int .i64 s.layers, .int .i64 s.most, .slice A7 s.shores.length c7, .slice A8 s.currents.length c8, .int .i64 0, .int .i64 0, .int .i64 0, .int .i64 0, .int .i64 0, .int .i64 0, .int .i64 0] 120)) (w.heap.size + 1 + 1 + 1) #[.int .i64 s.nx, .int .i64 s.ny, .int .i64 s.cell, .int .i64 s.slot, .int .i64 s.slots, .int .i64 s.layers, .int .i64 s.most, .slice A7 s.shores.length c7, .slice A8 s.currents.length c8, .int .i64 0, .int .i64 0, .int .i64 0, .int .i64 0, .int .i64 0, .int .i64 0, .int .i64 0] 120 := (by have h_ := blk_new (((w.alloc (.cells #[.int .i64 s.nx, .int .i64 s.ny, .int .i64 s.cell, .int .i64 s.slot, .int .i64 s.slots, .int .i64 s.layers, .int .i64 s.most, .slice A7 s.shores.length c7, .slice A8 s.currents.length c8] 25)).alloc (.cells #[.int .i64 x.f0.f0, .int .i64 x.f0.f1, .int .i64 x.f1.f0, .int .i64 x.f1.f1] 29)).alloc (.cells #[.int .i64 0, .int .i64 0, .int .i64 0, .int .i64 0] 33)) (.cells #[.int .i64 s.nx, .int .i64 s.ny, .int .i64 s.cell, .int .i64 s.slot, .int .i64 s.slots, .int .i64 s.layers, .int .i64 s.most, .slice A7 s.shores.length c7, .slice A8 s.currents.length c8, .int .i64 0, .int .i64 0, .int .i64 0, .int .i64 0, .int .i64 0, .int .i64 0, .int .i64 0] 120); first | exact h_ | (simp only [World.size_alloc] at h_; exact h_))
 have mB : Below w.heap.size w ((((w.alloc (.cells #[.int .i64 s.nx, .int .i64 s.ny, .int .i64 s.cell, .int .i64 s.slot, .int .i64 s.slots, .int .i64 s.layers, .int .i64 s.most, .slice A7 s.shores.length c7, .slice A8 s.currents.length c8] 25)).alloc (.cells #[.int .i64 x.f0.f0, .int .i64 x.f0.f1, .int .i64 x.f1.f0, .int .i64 x.f1.f1] 29)).alloc (.cells #[.int .i64 0, .int .i64 0, .int .i64 0, .int .i64 0] 33)).alloc (.cells #[.int .i64 s.nx, .int .i64 s.ny, .int .i64 s.cell, .int .i64 s.slot, .int .i64 s.slots, .int .i64 s.layers, .int .i64 s.most, .slice A7 s.shores.length c7, .slice A8 s.currents.length c8, .int .i64 0, .int .i64 0, .int .i64 0, .int .i64 0, .int .i64 0, .int .i64 0, .int .i64 0] 120)) := (below_alloc (below_alloc (below_alloc (below_alloc (Below.refl w.heap.size w) _) _) _) _)
 have hsz_ : w.heap.size ≤ w.heap.size := Nat.le_refl _
 generalize hW_ : ((((w.alloc (.cells #[.int .i64 s.nx, .int .i64 s.ny, .int .i64 s.cell, .int .i64 s.slot, .int .i64 s.slots, .int .i64 s.layers, .int .i64 s.most, .slice A7 s.shores.length c7, .slice A8 s.currents.length c8] 25)).alloc (.cells #[.int .i64 x.f0.f0, .int .i64 x.f0.f1, .int .i64 x.f1.f0, .int .i64 x.f1.f1] 29)).alloc (.cells #[.int .i64 0, .int .i64 0, .int .i64 0, .int .i64 0] 33)).alloc (.cells #[.int .i64 s.nx, .int .i64 s.ny, .int .i64 s.cell, .int .i64 s.slot, .int .i64 s.slots, .int .i64 s.layers, .int .i64 s.most, .slice A7 s.shores.length c7, .slice A8 s.currents.length c8, .int .i64 0, .int .i64 0, .int .i64 0, .int .i64 0, .int .i64 0, .int .i64 0, .int .i64 0] 120)) = W1 at m5 m6 m10 m12 mB ⊢
 clear hW_
 generalize hg5 : w.heap.size = g5 at m5 m6 m10 m12 ⊢
 have hG5 : w.heap.size ≤ g5 := by omega
 generalize hg6 : g5 + 1 = g6 at m6 m10 m12 ⊢
 have hn_5_6 : g5 ≠ g6 := by omega
 have hn_6_5 : g6 ≠ g5 := hn_5_6.symm
 have hG6 : w.heap.size ≤ g6 := by omega
 generalize hg10 : g6 + 1 = g10 at m10 m12 ⊢
 have hn_5_10 : g5 ≠ g10 := by omega
 have hn_6_10 : g6 ≠ g10 := by omega
 have hn_10_5 : g10 ≠ g5 := hn_5_10.symm
 have hn_10_6 : g10 ≠ g6 := hn_6_10.symm
 have hG10 : w.heap.size ≤ g10 := by omega
 generalize hg12 : g10 + 1 = g12 at m12 ⊢
 have hn_5_12 : g5 ≠ g12 := by omega
 have hn_6_12 : g6 ≠ g12 := by omega
 have hn_10_12 : g10 ≠ g12 := by omega
 have hn_12_5 : g12 ≠ g5 := hn_5_12.symm
 have hn_12_6 : g12 ≠ g6 := hn_6_12.symm
 have hn_12_10 : g12 ≠ g10 := hn_10_12.symm
 have hG12 : w.heap.size ≤ g12 := by omega
 clear hsz_
 try clear hg12
 try clear hg10
 try clear hg6
 try clear hg5
 have hs_W1 : w.heap.size ≤ W1.heap.size := mB.size
 have hcon := sea_any s A7 A8 c7 c8 W1 h7 (Kd.C_below hC7 mB) h8 (Kd.C_below hC8 mB)
 (with_reducible refine hcon.mono ?_)
 clear hcon
 rintro e W2 ⟨rfl, hb⟩
 replace m5 := blk_below m5 hb
 replace m6 := blk_below m6 hb
 replace m10 := blk_below m10 hb
 replace m12 := blk_below m12 hb
 replace mB := below_step mB hb
 clear hb
 have hs_W2 : w.heap.size ≤ W2.heap.size := mB.size
 rcases sea_two s with ⟨h1, hsb⟩ | h1
 case inr =>
  rw [h1]
  have HZ : Hid (AtE s x layer t u = 2) := Lib.hid (HE.out.trans (by rw [h1]; rfl))
  have HV2 : Hid (AtV s x layer t u = z29) := Lib.hid (HV.out.trans (if_neg zq29))
  clear HV HE
  obtain ⟨c10_0, c10_1, c10_2, c10_3, f10_0, f10_1, f10_2, f10_3⟩ := zce4 m10
  go_wp2
  exact bodyPost_ret (results_ct rfl _ _ g10 33 #[.int .i64 0, .int .i64 0, .int .i64 0, .int .i64 0] (0, 0) _ rfl (blk_put (blk_put (blk_put (blk_put m10 0 (.int .i64 0) rfl) 1 (.int .i64 0) rfl) 2 (.int .i64 0) rfl) 3 (.int .i64 0) rfl) Try.underlying33 rfl zq0) rfl ⟨zq30, (Below.setCell (p := ⟨g10, 3, none⟩) (Below.setCell (p := ⟨g10, 2, none⟩) (Below.setCell (p := ⟨g10, 1, none⟩) (Below.setCell (p := ⟨g10, 0, none⟩) mB hG10 _) hG10 _) hG10 _) hG10 _)⟩
 case inl =>
  have hSV := seaB_ok hsb
  have HE2 := Lib.hid (HE.out.trans (if_neg (by omega)))
  clear HE
  have HE := HE2
  clear HE2
  rw [h1]
  clear h1 hsb
  obtain ⟨c6_0, c6_1, c6_2, c6_3⟩ := zcs4 m6
  go_wp2_with fail
  clear c6_0 c6_1 c6_2 c6_3
  have hcon := box_any x W2
  (with_reducible refine hcon.mono ?_)
  clear hcon
  rintro e W3 ⟨rfl, hb⟩
  replace m5 := blk_below m5 hb
  replace m6 := blk_below m6 hb
  replace m10 := blk_below m10 hb
  replace m12 := blk_below m12 hb
  replace mB := below_step mB hb
  clear hb
  have hs_W3 : w.heap.size ≤ W3.heap.size := mB.size
  rcases box_two x with h1 | h1
  case inr =>
   rw [h1]
   have HZ : Hid (AtE s x layer t u = 2) := Lib.hid (HE.out.trans (by rw [h1]; rfl))
   have HV2 : Hid (AtV s x layer t u = z29) := Lib.hid (HV.out.trans (if_neg zq29))
   clear HV HE
   obtain ⟨c10_0, c10_1, c10_2, c10_3, f10_0, f10_1, f10_2, f10_3⟩ := zce4 m10
   go_wp2
   exact bodyPost_ret (results_ct rfl _ _ g10 33 #[.int .i64 0, .int .i64 0, .int .i64 0, .int .i64 0] (0, 0) _ rfl (blk_put (blk_put (blk_put (blk_put m10 0 (.int .i64 0) rfl) 1 (.int .i64 0) rfl) 2 (.int .i64 0) rfl) 3 (.int .i64 0) rfl) Try.underlying33 rfl zq0) rfl ⟨zq30, (Below.setCell (p := ⟨g10, 3, none⟩) (Below.setCell (p := ⟨g10, 2, none⟩) (Below.setCell (p := ⟨g10, 1, none⟩) (Below.setCell (p := ⟨g10, 0, none⟩) mB hG10 _) hG10 _) hG10 _) hG10 _)⟩
  case inl =>
   have hBX := boxB_ok h1
   have HE2 := Lib.hid (HE.out.trans (if_neg (by omega)))
   clear HE
   have HE := HE2
   clear HE2
   rw [h1]
   clear h1
   by_cases hq : layer < 0
   case pos =>
    have dq0 : decide (layer < 0) = true := decide_eq_true (by omega)
    obtain ⟨c5_0, c5_1, c5_2, c5_3, c5_4, c5_5, c5_6, c5_7, c5_8⟩ := zcs9 m5
    have HZ : Hid (AtE s x layer t u = 3) := Lib.hid (HE.out.trans (if_pos (.inl hq)))
    have HV2 : Hid (AtV s x layer t u = z29) := Lib.hid (HV.out.trans (if_neg zq29))
    clear HV HE
    obtain ⟨c10_0, c10_1, c10_2, c10_3, f10_0, f10_1, f10_2, f10_3⟩ := zce4 m10
    go_wp2
    exact bodyPost_ret (results_ct rfl _ _ g10 33 #[.int .i64 0, .int .i64 0, .int .i64 0, .int .i64 0] (0, 0) _ rfl (blk_put (blk_put (blk_put (blk_put m10 0 (.int .i64 0) rfl) 1 (.int .i64 0) rfl) 2 (.int .i64 0) rfl) 3 (.int .i64 0) rfl) Try.underlying33 rfl zq0) rfl ⟨zq30, (Below.setCell (p := ⟨g10, 3, none⟩) (Below.setCell (p := ⟨g10, 2, none⟩) (Below.setCell (p := ⟨g10, 1, none⟩) (Below.setCell (p := ⟨g10, 0, none⟩) mB hG10 _) hG10 _) hG10 _) hG10 _)⟩
   case neg =>
    have dq0 : decide (layer < 0) = false := decide_eq_false (by omega)
    have hl0 := hq; clear hq
    have dl0 := dq0
    clear dq0
    by_cases hq : s.layers ≤ layer
    case pos =>
     have dq0 : decide (s.layers ≤ layer) = true := decide_eq_true (by omega)
     obtain ⟨c5_0, c5_1, c5_2, c5_3, c5_4, c5_5, c5_6, c5_7, c5_8⟩ := zcs9 m5
     have HZ : Hid (AtE s x layer t u = 3) := Lib.hid (HE.out.trans (if_pos (.inr hq)))
     have HV2 : Hid (AtV s x layer t u = z29) := Lib.hid (HV.out.trans (if_neg zq29))
     clear HV HE
     obtain ⟨c10_0, c10_1, c10_2, c10_3, f10_0, f10_1, f10_2, f10_3⟩ := zce4 m10
     go_wp2
     exact bodyPost_ret (results_ct rfl _ _ g10 33 #[.int .i64 0, .int .i64 0, .int .i64 0, .int .i64 0] (0, 0) _ rfl (blk_put (blk_put (blk_put (blk_put m10 0 (.int .i64 0) rfl) 1 (.int .i64 0) rfl) 2 (.int .i64 0) rfl) 3 (.int .i64 0) rfl) Try.underlying33 rfl zq0) rfl ⟨zq30, (Below.setCell (p := ⟨g10, 3, none⟩) (Below.setCell (p := ⟨g10, 2, none⟩) (Below.setCell (p := ⟨g10, 1, none⟩) (Below.setCell (p := ⟨g10, 0, none⟩) mB hG10 _) hG10 _) hG10 _) hG10 _)⟩
    case neg =>
     have dq0 : decide (s.layers ≤ layer) = false := decide_eq_false (by omega)
     have HE2 := Lib.hid (HE.out.trans (if_neg (by omega)))
     clear HE
     have HE := HE2
     clear HE2
     have hl1 := hq; clear hq
     have dl1 := dq0
     clear dq0
     by_cases hq : t < 0
     case pos =>
      have dq0 : decide (t < 0) = true := decide_eq_true (by omega)
      obtain ⟨c5_0, c5_1, c5_2, c5_3, c5_4, c5_5, c5_6, c5_7, c5_8⟩ := zcs9 m5
      have HZ : Hid (AtE s x layer t u = 2) := Lib.hid (HE.out.trans (if_pos (.inl hq)))
      have HV2 : Hid (AtV s x layer t u = z29) := Lib.hid (HV.out.trans (if_neg zq29))
      clear HV HE
      obtain ⟨c10_0, c10_1, c10_2, c10_3, f10_0, f10_1, f10_2, f10_3⟩ := zce4 m10
      go_wp2
      exact bodyPost_ret (results_ct rfl _ _ g10 33 #[.int .i64 0, .int .i64 0, .int .i64 0, .int .i64 0] (0, 0) _ rfl (blk_put (blk_put (blk_put (blk_put m10 0 (.int .i64 0) rfl) 1 (.int .i64 0) rfl) 2 (.int .i64 0) rfl) 3 (.int .i64 0) rfl) Try.underlying33 rfl zq0) rfl ⟨zq30, (Below.setCell (p := ⟨g10, 3, none⟩) (Below.setCell (p := ⟨g10, 2, none⟩) (Below.setCell (p := ⟨g10, 1, none⟩) (Below.setCell (p := ⟨g10, 0, none⟩) mB hG10 _) hG10 _) hG10 _) hG10 _)⟩
     case neg =>
      have dq0 : decide (t < 0) = false := decide_eq_false (by omega)
      have ht0 := hq; clear hq
      have dt0 := dq0
      clear dq0
      by_cases hq : u ≤ t
      case pos =>
       have dq0 : decide (u ≤ t) = true := decide_eq_true (by omega)
       obtain ⟨c5_0, c5_1, c5_2, c5_3, c5_4, c5_5, c5_6, c5_7, c5_8⟩ := zcs9 m5
       have HZ : Hid (AtE s x layer t u = 2) := Lib.hid (HE.out.trans (if_pos (.inr hq)))
       have HV2 : Hid (AtV s x layer t u = z29) := Lib.hid (HV.out.trans (if_neg zq29))
       clear HV HE
       obtain ⟨c10_0, c10_1, c10_2, c10_3, f10_0, f10_1, f10_2, f10_3⟩ := zce4 m10
       go_wp2
       exact bodyPost_ret (results_ct rfl _ _ g10 33 #[.int .i64 0, .int .i64 0, .int .i64 0, .int .i64 0] (0, 0) _ rfl (blk_put (blk_put (blk_put (blk_put m10 0 (.int .i64 0) rfl) 1 (.int .i64 0) rfl) 2 (.int .i64 0) rfl) 3 (.int .i64 0) rfl) Try.underlying33 rfl zq0) rfl ⟨zq30, (Below.setCell (p := ⟨g10, 3, none⟩) (Below.setCell (p := ⟨g10, 2, none⟩) (Below.setCell (p := ⟨g10, 1, none⟩) (Below.setCell (p := ⟨g10, 0, none⟩) mB hG10 _) hG10 _) hG10 _) hG10 _)⟩
      case neg =>
       have dq0 : decide (u ≤ t) = false := decide_eq_false (by omega)
       have HE2 := Lib.hid (HE.out.trans (if_neg (by omega)))
       clear HE
       have HE := HE2
       clear HE2
       have ht1 := hq; clear hq
       have dt1 := dq0
       clear dq0
       obtain ⟨c5_0, c5_1, c5_2, c5_3, c5_4, c5_5, c5_6, c5_7, c5_8⟩ := zcs9 m5
       obtain ⟨c6_0, c6_1, c6_2, c6_3⟩ := zcs4 m6
       go_wp2_with fail
       clear c5_0 c5_1 c5_2 c5_3 c5_4 c5_5 c5_6 c5_7 c5_8 c6_0 c6_1 c6_2 c6_3
       have mkT : ∀ W, Below W3.heap.size W3 W → TripAt W g12 s veh0 := fun W hW => ⟨A7, c7, A8, c8, blk_below m12 hW, h7, Kd.C_below hC7 (below_step mB hW), h8, Kd.C_below hC8 (below_step mB hW)⟩
       have hN : Below W3.heap.size W3 W3 := Below.refl _ _
       have hcon := contains_any g12 s veh0 x W3 (mkT W3 hN) hSV.n
       (with_reducible refine hcon.mono ?_)
       clear hcon
       rintro e W4 ⟨rfl, hb⟩
       replace hN := below_step hN hb
       replace m5 := blk_below m5 hb
       replace m6 := blk_below m6 hb
       replace m10 := blk_below m10 hb
       replace m12 := blk_below m12 hb
       replace mB := below_step mB hb
       clear hb
       have hs_W4 : w.heap.size ≤ W4.heap.size := mB.size
       cases hc : containsI s x with
       | false =>
        have HC := Lib.hid hc
        clear hc
        have HZ : Hid (AtE s x layer t u = 5) := Lib.hid (HE.out.trans (by rw [HC.out]; rfl))
        have HV2 : Hid (AtV s x layer t u = z29) := Lib.hid (HV.out.trans (if_neg zq29))
        clear HV HE
        obtain ⟨c10_0, c10_1, c10_2, c10_3, f10_0, f10_1, f10_2, f10_3⟩ := zce4 m10
        go_wp2
        exact bodyPost_ret (results_ct rfl _ _ g10 33 #[.int .i64 0, .int .i64 0, .int .i64 0, .int .i64 0] (0, 0) _ rfl (blk_put (blk_put (blk_put (blk_put m10 0 (.int .i64 0) rfl) 1 (.int .i64 0) rfl) 2 (.int .i64 0) rfl) 3 (.int .i64 0) rfl) Try.underlying33 rfl zq0) rfl ⟨zq30, (Below.setCell (p := ⟨g10, 3, none⟩) (Below.setCell (p := ⟨g10, 2, none⟩) (Below.setCell (p := ⟨g10, 1, none⟩) (Below.setCell (p := ⟨g10, 0, none⟩) mB hG10 _) hG10 _) hG10 _) hG10 _)⟩
       | true =>
        have hIn := contains_in hSV.n hBX hc
        have HC := Lib.hid hc
        clear hc
        go_wp2_with fail
        have hcon := known_any g12 s veh0 t u W4 (mkT W4 hN) hSV.n
        (with_reducible refine hcon.mono ?_)
        clear hcon
        rintro e W5 ⟨rfl, hb⟩
        replace hN := below_step hN hb
        replace m5 := blk_below m5 hb
        replace m6 := blk_below m6 hb
        replace m10 := blk_below m10 hb
        replace m12 := blk_below m12 hb
        replace mB := below_step mB hb
        clear hb
        have hs_W5 : w.heap.size ≤ W5.heap.size := mB.size
        cases hk : knownI s t u with
        | false =>
         have HK := Lib.hid hk
         clear hk
         have HZ : Hid (AtE s x layer t u = 5) := Lib.hid (HE.out.trans (by rw [HC.out, HK.out]; rfl))
         have HV2 : Hid (AtV s x layer t u = z29) := Lib.hid (HV.out.trans (if_neg zq29))
         clear HV HE
         obtain ⟨c10_0, c10_1, c10_2, c10_3, f10_0, f10_1, f10_2, f10_3⟩ := zce4 m10
         go_wp2
         exact bodyPost_ret (results_ct rfl _ _ g10 33 #[.int .i64 0, .int .i64 0, .int .i64 0, .int .i64 0] (0, 0) _ rfl (blk_put (blk_put (blk_put (blk_put m10 0 (.int .i64 0) rfl) 1 (.int .i64 0) rfl) 2 (.int .i64 0) rfl) 3 (.int .i64 0) rfl) Try.underlying33 rfl zq0) rfl ⟨zq30, (Below.setCell (p := ⟨g10, 3, none⟩) (Below.setCell (p := ⟨g10, 2, none⟩) (Below.setCell (p := ⟨g10, 1, none⟩) (Below.setCell (p := ⟨g10, 0, none⟩) mB hG10 _) hG10 _) hG10 _) hG10 _)⟩
        | true =>
         have hk2 : u ≤ s.slots * s.slot := by unfold knownI at hk; simp only [Bool.and_eq_true, decide_eq_true_eq] at hk; exact hk.2
         have HZ : Hid (AtE s x layer t u = 0) := Lib.hid (HE.out.trans (by rw [HC.out, hk]; rfl))
         clear hk HE
         have HV2 := Lib.hid (HV.out.trans (if_pos HZ.out))
         clear HV
         obtain ⟨c6_0, c6_1, c6_2, c6_3⟩ := zcs4 m6
         go_wp2_with fail
         clear c6_0 c6_1 c6_2 c6_3
         have hcon := at_any g12 s veh0 x layer t u W5 (mkT W5 hN) hSV.n hIn hSV.cu (by omega) (by omega) (by omega) (by omega) hk2
         (with_reducible refine hcon.mono ?_)
         clear hcon
         rintro e W6 ⟨rfl, hb⟩
         replace hN := below_step hN hb
         replace m5 := blk_below m5 hb
         replace m6 := blk_below m6 hb
         replace m10 := blk_below m10 hb
         replace m12 := blk_below m12 hb
         replace mB := below_step mB hb
         clear hb
         have hs_W6 : w.heap.size ≤ W6.heap.size := mB.size
         clear dl0 dl1 dt0 dt1 hl0 hl1 ht0 ht1 hk2 hIn hBX hSV mkT hN
         generalize atI s x layer t u = Y at *
         have a10_0 : ∀ o_, (W6.alloc o_).cell? ⟨g10, 0, none⟩ = some (.int .i64 0) := fun o_ => (blk_cell (blk_alloc m10 o_) 0).trans rfl
         have b10_0 : ∀ o_, (W6.alloc o_).frozen? ⟨g10, 0, none⟩ = false := fun o_ => blk_frozen (blk_alloc m10 o_) 0
         have a10_1 : ∀ o_, (W6.alloc o_).cell? ⟨g10, 1, none⟩ = some (.int .i64 0) := fun o_ => (blk_cell (blk_alloc m10 o_) 1).trans rfl
         have b10_1 : ∀ o_, (W6.alloc o_).frozen? ⟨g10, 1, none⟩ = false := fun o_ => blk_frozen (blk_alloc m10 o_) 1
         have a10_2 : ∀ o_, (W6.alloc o_).cell? ⟨g10, 2, none⟩ = some (.int .i64 0) := fun o_ => (blk_cell (blk_alloc m10 o_) 2).trans rfl
         have b10_2 : ∀ o_, (W6.alloc o_).frozen? ⟨g10, 2, none⟩ = false := fun o_ => blk_frozen (blk_alloc m10 o_) 2
         have a10_3 : ∀ o_, (W6.alloc o_).cell? ⟨g10, 3, none⟩ = some (.int .i64 0) := fun o_ => (blk_cell (blk_alloc m10 o_) 3).trans rfl
         have b10_3 : ∀ o_, (W6.alloc o_).frozen? ⟨g10, 3, none⟩ = false := fun o_ => blk_frozen (blk_alloc m10 o_) 3
         go_wp2
         exact bodyPost_ret (results_ct rfl _ _ g10 33 #[.int .i64 Y.f0.f0, .int .i64 Y.f0.f1, .int .i64 Y.f1.f0, .int .i64 Y.f1.f1] (0, 0) _ rfl (blk_put (blk_put (blk_put (blk_put (blk_alloc m10 _) 0 (.int .i64 Y.f0.f0) rfl) 1 (.int .i64 Y.f0.f1) rfl) 2 (.int .i64 Y.f1.f0) rfl) 3 (.int .i64 Y.f1.f1) rfl) Try.underlying33 rfl zq0) rfl ⟨zq30, (Below.setCell (p := ⟨g10, 3, none⟩) (Below.setCell (p := ⟨g10, 2, none⟩) (Below.setCell (p := ⟨g10, 1, none⟩) (Below.setCell (p := ⟨g10, 0, none⟩) (below_alloc mB _) hG10 _) hG10 _) hG10 _) hG10 _)⟩
end Go.Proofs.Ythglkoddmpicdaa.Gl
end
section
/- The contracts of exported functions, as the printed texts ask for them. -/
namespace Go.Proofs.Ythglkoddmpicdaa.Pr
open Go.RowKit Go.Proofs.YthglkoddmpicdaaW.PrintWords Go.Proofs.YthglkoddmpicdaaW.PrintLast Go.Proofs.YthglkoddmpicdaaW.PrintMore Go.Proofs.Ythglkoddmpicdaa.Gl
set_option linter.unusedVariables false
def glider_At.f (a0_0 : Int) (a0_1 : Int) (a0_2 : Int) (a0_3 : Int) (a0_4 : Int) (a0_5 : Int) (a0_6 : Int) (l0_7 : List Bool) (l0_8 : List (S33)) (a1_0 : Int) (a1_1 : Int) (a1_2 : Int) (a1_3 : Int) (a2 : Int) (a3 : Int) (a4 : Int) : Option (Int × Int × Int × Int × Int) := some ((AtV ⟨a0_0, a0_1, a0_2, a0_3, a0_4, a0_5, a0_6, l0_7, l0_8⟩ ⟨⟨a1_0, a1_1⟩, ⟨a1_2, a1_3⟩⟩ a2 a3 a4).f0.f0, (AtV ⟨a0_0, a0_1, a0_2, a0_3, a0_4, a0_5, a0_6, l0_7, l0_8⟩ ⟨⟨a1_0, a1_1⟩, ⟨a1_2, a1_3⟩⟩ a2 a3 a4).f0.f1, (AtV ⟨a0_0, a0_1, a0_2, a0_3, a0_4, a0_5, a0_6, l0_7, l0_8⟩ ⟨⟨a1_0, a1_1⟩, ⟨a1_2, a1_3⟩⟩ a2 a3 a4).f1.f0, (AtV ⟨a0_0, a0_1, a0_2, a0_3, a0_4, a0_5, a0_6, l0_7, l0_8⟩ ⟨⟨a1_0, a1_1⟩, ⟨a1_2, a1_3⟩⟩ a2 a3 a4).f1.f1, AtE ⟨a0_0, a0_1, a0_2, a0_3, a0_4, a0_5, a0_6, l0_7, l0_8⟩ ⟨⟨a1_0, a1_1⟩, ⟨a1_2, a1_3⟩⟩ a2 a3 a4)
theorem glider_At.calls (a0_0 : Int) (a0_1 : Int) (a0_2 : Int) (a0_3 : Int) (a0_4 : Int) (a0_5 : Int) (a0_6 : Int) (A0_7 : Option Addr) (c0_7 : Nat) (l0_7 : List Bool) (A0_8 : Option Addr) (c0_8 : Nat) (l0_8 : List (S33)) (a1_0 : Int) (a1_1 : Int) (a1_2 : Int) (a1_3 : Int) (a2 : Int) (a3 : Int) (a4 : Int) (r1 : Int) (r2 : Int) (r3 : Int) (r4 : Int) (r5 : Int) (w : World) (hr0_7 : Kd.C Kd.bool w A0_7 l0_7.length l0_7) (hc0_7 : l0_7.length ≤ c0_7) (hr0_8 : Kd.C k33 w A0_8 l0_8.length l0_8) (hc0_8 : l0_8.length ≤ c0_8) (h : glider_At.f a0_0 a0_1 a0_2 a0_3 a0_4 a0_5 a0_6 l0_7 l0_8 a1_0 a1_1 a1_2 a1_3 a2 a3 a4 = some (r1, r2, r3, r4, r5)) :
  Calls Try.prog 13 #[.agg #[.int .i64 a0_0, .int .i64 a0_1, .int .i64 a0_2, .int .i64 a0_3, .int .i64 a0_4, .int .i64 a0_5, .int .i64 a0_6, .slice A0_7 l0_7.length c0_7, .slice A0_8 l0_8.length c0_8], .agg #[.int .i64 a1_0, .int .i64 a1_1, .int .i64 a1_2, .int .i64 a1_3], .int .i64 a2, .int .i64 a3, .int .i64 a4] w fun e w' => e = .returned (.tuple #[.agg #[.int .i64 r1, .int .i64 r2, .int .i64 r3, .int .i64 r4], .int .i64 r5]) ∧ Below w.heap.size w w' := by
 cases h
 exact At_any ⟨a0_0, a0_1, a0_2, a0_3, a0_4, a0_5, a0_6, l0_7, l0_8⟩ ⟨⟨a1_0, a1_1⟩, ⟨a1_2, a1_3⟩⟩ a2 a3 a4 A0_7 A0_8 c0_7 c0_8 w hc0_7 hr0_7 hc0_8 hr0_8
end Go.Proofs.Ythglkoddmpicdaa.Pr
end
