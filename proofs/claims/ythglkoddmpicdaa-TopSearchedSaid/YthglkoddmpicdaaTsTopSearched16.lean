/- Part 16 of the proof of TopSearched: what the functions compute. No condition. -/
import Derived.Test.YthglkoddmpicdaaTsTopSearched3
import Derived.Test.YthglkoddmpicdaaTsTopSearched15
import Derived.Test.YthglkoddmpicdaaTsTopSearched12
import Derived.Test.YthglkoddmpicdaaTsTopSearched5
import Derived.Test.YthglkoddmpicdaaTsTopSearched13
import Derived.Test.YthglkoddmpicdaaTsTopSearched4
set_option linter.unusedVariables false
set_option linter.unusedSimpArgs false
section
/- The hull reach, and which boxes are a proof, as the program reckons them. -/
namespace Go.Proofs.Ythglkoddmpicdaa.Gl
open Go.RowKit Go.Shelf Go.Proofs.YthglkoddmpicdaaW.PrintWords Go.Proofs.YthglkoddmpicdaaW.PrintLast Go.Proofs.YthglkoddmpicdaaW.PrintMore Go.Proofs.Ythglkoddmpicdaa.Pr Go.Proofs.YthglkoddmpicdaaW.Round
set_option linter.unusedVariables false
set_option linter.unusedSimpArgs false
attribute [local go_sem] max2_int min2_int max_two min_two max_four
attribute [local go_sem] Oper.semAt_some
/-- A trip that stays one while what was there before and its own block are as they are. -/
def TripPost2 (w0 : World) (s : Sea) (v : Veh) (E : Int) (w : World) (e : Ending) (w' : World) : Prop :=
 ∃ ptr, e = .returned (.tuple #[.pointer ptr, .int .i64 E]) ∧ Below w.heap.size w w' ∧ ((tripE s v = 0 ∧ ∃ g, ptr = some ⟨g, 0, none⟩ ∧ w.heap.size ≤ g ∧ TripAt w' g s v ∧ ∀ W', Below w0.heap.size w0 W' → W'.heap[g]? = w'.heap[g]? → TripAt W' g s v) ∨ (tripE s v ≠ 0 ∧ ptr = none))
set_option maxRecDepth 100000 in
set_option maxHeartbeats 4000000 in
theorem newTrip_any2 (s : Sea) (v : Veh) (A7 A8 : Option Addr) (c7 c8 : Nat) (w0 w : World) (hb0 : Below w0.heap.size w0 w) (h7 : s.shores.length ≤ c7) (hC7 : Kd.C Kd.bool w0 A7 s.shores.length s.shores) (h8 : s.currents.length ≤ c8) (hC8 : Kd.C k33 w0 A8 s.currents.length s.currents) :
  Calls Try.prog 131 #[.agg #[.int .i64 s.nx, .int .i64 s.ny, .int .i64 s.cell, .int .i64 s.slot, .int .i64 s.slots, .int .i64 s.layers, .int .i64 s.most, .slice A7 s.shores.length c7, .slice A8 s.currents.length c8], .agg #[.int .i64 v.speed, .int .i64 v.dive, .int .i64 v.use.f0, .int .i64 v.use.f1, .int .i64 v.drift.f0, .int .i64 v.drift.f1, .int .i64 v.reserve]] w (TripPost2 w0 s v (tripE s v) w) := by
 have hu25 := Try.underlying25
 have hu41 := Try.underlying41
 have hu120 := Try.underlying120
 have HE : Hid (tripE s v = if seaE s ≠ 0 then seaE s else vehE v) := Lib.hid rfl
 go_enter Try.func131, Try.ntmps131
 go_wp2_with fail
 have m2 : Blk ((w.alloc (.cells #[.int .i64 s.nx, .int .i64 s.ny, .int .i64 s.cell, .int .i64 s.slot, .int .i64 s.slots, .int .i64 s.layers, .int .i64 s.most, .slice A7 s.shores.length c7, .slice A8 s.currents.length c8] 25)).alloc (.cells #[.int .i64 v.speed, .int .i64 v.dive, .int .i64 v.use.f0, .int .i64 v.use.f1, .int .i64 v.drift.f0, .int .i64 v.drift.f1, .int .i64 v.reserve] 41)) (w.heap.size) #[.int .i64 s.nx, .int .i64 s.ny, .int .i64 s.cell, .int .i64 s.slot, .int .i64 s.slots, .int .i64 s.layers, .int .i64 s.most, .slice A7 s.shores.length c7, .slice A8 s.currents.length c8] 25 := (blk_alloc zq20 _)
 have m3 : Blk ((w.alloc (.cells #[.int .i64 s.nx, .int .i64 s.ny, .int .i64 s.cell, .int .i64 s.slot, .int .i64 s.slots, .int .i64 s.layers, .int .i64 s.most, .slice A7 s.shores.length c7, .slice A8 s.currents.length c8] 25)).alloc (.cells #[.int .i64 v.speed, .int .i64 v.dive, .int .i64 v.use.f0, .int .i64 v.use.f1, .int .i64 v.drift.f0, .int .i64 v.drift.f1, .int .i64 v.reserve] 41)) (w.heap.size + 1) #[.int .i64 v.speed, .int .i64 v.dive, .int .i64 v.use.f0, .int .i64 v.use.f1, .int .i64 v.drift.f0, .int .i64 v.drift.f1, .int .i64 v.reserve] 41 := zq35
 have mB : Below w.heap.size w ((w.alloc (.cells #[.int .i64 s.nx, .int .i64 s.ny, .int .i64 s.cell, .int .i64 s.slot, .int .i64 s.slots, .int .i64 s.layers, .int .i64 s.most, .slice A7 s.shores.length c7, .slice A8 s.currents.length c8] 25)).alloc (.cells #[.int .i64 v.speed, .int .i64 v.dive, .int .i64 v.use.f0, .int .i64 v.use.f1, .int .i64 v.drift.f0, .int .i64 v.drift.f1, .int .i64 v.reserve] 41)) := (below_alloc (below_alloc (Below.refl w.heap.size w) _) _)
 have hsz_ : w.heap.size ≤ w.heap.size := Nat.le_refl _
 generalize hW_ : ((w.alloc (.cells #[.int .i64 s.nx, .int .i64 s.ny, .int .i64 s.cell, .int .i64 s.slot, .int .i64 s.slots, .int .i64 s.layers, .int .i64 s.most, .slice A7 s.shores.length c7, .slice A8 s.currents.length c8] 25)).alloc (.cells #[.int .i64 v.speed, .int .i64 v.dive, .int .i64 v.use.f0, .int .i64 v.use.f1, .int .i64 v.drift.f0, .int .i64 v.drift.f1, .int .i64 v.reserve] 41)) = W1 at m2 m3 mB ⊢
 clear hW_
 generalize hg2 : w.heap.size = g2 at m2 m3 ⊢
 have hG2 : w.heap.size ≤ g2 := by omega
 generalize hg3 : g2 + 1 = g3 at m3 ⊢
 have hn_2_3 : g2 ≠ g3 := by omega
 have hn_3_2 : g3 ≠ g2 := hn_2_3.symm
 have hG3 : w.heap.size ≤ g3 := by omega
 clear hsz_
 try clear hg3
 try clear hg2
 have hs_W1 : w.heap.size ≤ W1.heap.size := mB.size
 have hcon := sea_any s A7 A8 c7 c8 W1 h7 (Kd.C_below (Kd.C_below hC7 hb0) mB) h8 (Kd.C_below (Kd.C_below hC8 hb0) mB)
 (with_reducible refine hcon.mono ?_)
 clear hcon
 rintro e W2 ⟨rfl, hb⟩
 replace m2 := blk_below m2 hb
 replace m3 := blk_below m3 hb
 replace mB := below_step mB hb
 clear hb
 have hs_W2 : w.heap.size ≤ W2.heap.size := mB.size
 rcases sea_two s with ⟨h1, _⟩ | h1
 case inr =>
  have HZ : Hid (tripE s v = 2) := Lib.hid (HE.out.trans (by rw [h1]; rfl))
  rw [h1]
  clear h1 HE
  go_wp2
  go_ret2
  exact ⟨none, zq21, mB, .inr ⟨by rw [HZ.out]; decide, rfl⟩⟩
 case inl =>
  have HE2 := Lib.hid (HE.out.trans (if_neg (by omega)))
  clear HE
  rw [h1]
  clear h1
  obtain ⟨c3_0, c3_1, c3_2, c3_3, c3_4, c3_5, c3_6⟩ := zcs7 m3
  go_wp2_with fail
  clear c3_0 c3_1 c3_2 c3_3 c3_4 c3_5 c3_6
  have hcon := veh_any v W2
  (with_reducible refine hcon.mono ?_)
  clear hcon
  rintro e W3 ⟨rfl, hb⟩
  replace m2 := blk_below m2 hb
  replace m3 := blk_below m3 hb
  replace mB := below_step mB hb
  clear hb
  have hs_W3 : w.heap.size ≤ W3.heap.size := mB.size
  rcases veh_two v with ⟨h1, _⟩ | h1
  case inr =>
   have HE := HE2
   have HZ : Hid (tripE s v = 2) := Lib.hid (HE2.out.trans h1)
   rw [h1]
   clear h1 HE
   go_wp2
   go_ret2
   exact ⟨none, zq21, mB, .inr ⟨by rw [HZ.out]; decide, rfl⟩⟩
  case inl =>
   have HZ := Lib.hid (HE2.out.trans h1)
   rw [h1]
   clear h1 HE2
   obtain ⟨c2_0, c2_1, c2_2, c2_3, c2_4, c2_5, c2_6, c2_7, c2_8⟩ := zcs9 m2
   obtain ⟨c3_0, c3_1, c3_2, c3_3, c3_4, c3_5, c3_6⟩ := zcs7 m3
   go_wp2
   go_ret2
   have hb2 := hb0.trans ((below_alloc mB (.cells #[.int .i64 s.nx, .int .i64 s.ny, .int .i64 s.cell, .int .i64 s.slot, .int .i64 s.slots, .int .i64 s.layers, .int .i64 s.most, .slice A7 s.shores.length c7, .slice A8 s.currents.length c8, .int .i64 v.speed, .int .i64 v.dive, .int .i64 v.use.f0, .int .i64 v.use.f1, .int .i64 v.drift.f0, .int .i64 v.drift.f1, .int .i64 v.reserve] 120)).mono hb0.size)
   exact ⟨_, zq21, below_alloc mB _, .inl ⟨HZ.out, W3.heap.size, rfl, mB.size, ⟨A7, c7, A8, c8, blk_new W3 (.cells #[.int .i64 s.nx, .int .i64 s.ny, .int .i64 s.cell, .int .i64 s.slot, .int .i64 s.slots, .int .i64 s.layers, .int .i64 s.most, .slice A7 s.shores.length c7, .slice A8 s.currents.length c8, .int .i64 v.speed, .int .i64 v.dive, .int .i64 v.use.f0, .int .i64 v.use.f1, .int .i64 v.drift.f0, .int .i64 v.drift.f1, .int .i64 v.reserve] 120), h7, Kd.C_below hC7 hb2, h8, Kd.C_below hC8 hb2⟩, fun W' hB hg => ⟨A7, c7, A8, c8, hg.trans (blk_new W3 (.cells #[.int .i64 s.nx, .int .i64 s.ny, .int .i64 s.cell, .int .i64 s.slot, .int .i64 s.slots, .int .i64 s.layers, .int .i64 s.most, .slice A7 s.shores.length c7, .slice A8 s.currents.length c8, .int .i64 v.speed, .int .i64 v.dive, .int .i64 v.use.f0, .int .i64 v.use.f1, .int .i64 v.drift.f0, .int .i64 v.drift.f1, .int .i64 v.reserve] 120)), h7, Kd.C_below hC7 hB, h8, Kd.C_below hC8 hB⟩⟩⟩
set_option maxRecDepth 100000 in
set_option maxHeartbeats 4000000 in
theorem begin_any2 (s : Sea) (v : Veh) (x : S29) (t : Int) (A7 A8 : Option Addr) (c7 c8 : Nat) (w0 w : World) (hb0 : Below w0.heap.size w0 w) (h7 : s.shores.length ≤ c7) (hC7 : Kd.C Kd.bool w0 A7 s.shores.length s.shores) (h8 : s.currents.length ≤ c8) (hC8 : Kd.C k33 w0 A8 s.currents.length s.currents) :
  Calls Try.prog 81 #[.agg #[.int .i64 s.nx, .int .i64 s.ny, .int .i64 s.cell, .int .i64 s.slot, .int .i64 s.slots, .int .i64 s.layers, .int .i64 s.most, .slice A7 s.shores.length c7, .slice A8 s.currents.length c8], .agg #[.int .i64 v.speed, .int .i64 v.dive, .int .i64 v.use.f0, .int .i64 v.use.f1, .int .i64 v.drift.f0, .int .i64 v.drift.f1, .int .i64 v.reserve], .agg #[.int .i64 x.f0.f0, .int .i64 x.f0.f1, .int .i64 x.f1.f0, .int .i64 x.f1.f1], .int .i64 t] w (TripPost2 w0 s v (beginE s v x t) w) := by
 have hu25 := Try.underlying25
 have hu41 := Try.underlying41
 have hu29 := Try.underlying29
 have HE : Hid (beginE s v x t = if tripE s v ≠ 0 then tripE s v else placeE x t) := Lib.hid rfl
 go_enter Try.func81, Try.ntmps81
 go_wp2_with fail
 have m4 : Blk (((w.alloc (.cells #[.int .i64 s.nx, .int .i64 s.ny, .int .i64 s.cell, .int .i64 s.slot, .int .i64 s.slots, .int .i64 s.layers, .int .i64 s.most, .slice A7 s.shores.length c7, .slice A8 s.currents.length c8] 25)).alloc (.cells #[.int .i64 v.speed, .int .i64 v.dive, .int .i64 v.use.f0, .int .i64 v.use.f1, .int .i64 v.drift.f0, .int .i64 v.drift.f1, .int .i64 v.reserve] 41)).alloc (.cells #[.int .i64 x.f0.f0, .int .i64 x.f0.f1, .int .i64 x.f1.f0, .int .i64 x.f1.f1] 29)) (w.heap.size) #[.int .i64 s.nx, .int .i64 s.ny, .int .i64 s.cell, .int .i64 s.slot, .int .i64 s.slots, .int .i64 s.layers, .int .i64 s.most, .slice A7 s.shores.length c7, .slice A8 s.currents.length c8] 25 := (blk_alloc (blk_alloc zq20 _) _)
 have m5 : Blk (((w.alloc (.cells #[.int .i64 s.nx, .int .i64 s.ny, .int .i64 s.cell, .int .i64 s.slot, .int .i64 s.slots, .int .i64 s.layers, .int .i64 s.most, .slice A7 s.shores.length c7, .slice A8 s.currents.length c8] 25)).alloc (.cells #[.int .i64 v.speed, .int .i64 v.dive, .int .i64 v.use.f0, .int .i64 v.use.f1, .int .i64 v.drift.f0, .int .i64 v.drift.f1, .int .i64 v.reserve] 41)).alloc (.cells #[.int .i64 x.f0.f0, .int .i64 x.f0.f1, .int .i64 x.f1.f0, .int .i64 x.f1.f1] 29)) (w.heap.size + 1) #[.int .i64 v.speed, .int .i64 v.dive, .int .i64 v.use.f0, .int .i64 v.use.f1, .int .i64 v.drift.f0, .int .i64 v.drift.f1, .int .i64 v.reserve] 41 := (blk_alloc zq35 _)
 have m6 : Blk (((w.alloc (.cells #[.int .i64 s.nx, .int .i64 s.ny, .int .i64 s.cell, .int .i64 s.slot, .int .i64 s.slots, .int .i64 s.layers, .int .i64 s.most, .slice A7 s.shores.length c7, .slice A8 s.currents.length c8] 25)).alloc (.cells #[.int .i64 v.speed, .int .i64 v.dive, .int .i64 v.use.f0, .int .i64 v.use.f1, .int .i64 v.drift.f0, .int .i64 v.drift.f1, .int .i64 v.reserve] 41)).alloc (.cells #[.int .i64 x.f0.f0, .int .i64 x.f0.f1, .int .i64 x.f1.f0, .int .i64 x.f1.f1] 29)) (w.heap.size + 1 + 1) #[.int .i64 x.f0.f0, .int .i64 x.f0.f1, .int .i64 x.f1.f0, .int .i64 x.f1.f1] 29 := zq36
 have mB : Below w.heap.size w (((w.alloc (.cells #[.int .i64 s.nx, .int .i64 s.ny, .int .i64 s.cell, .int .i64 s.slot, .int .i64 s.slots, .int .i64 s.layers, .int .i64 s.most, .slice A7 s.shores.length c7, .slice A8 s.currents.length c8] 25)).alloc (.cells #[.int .i64 v.speed, .int .i64 v.dive, .int .i64 v.use.f0, .int .i64 v.use.f1, .int .i64 v.drift.f0, .int .i64 v.drift.f1, .int .i64 v.reserve] 41)).alloc (.cells #[.int .i64 x.f0.f0, .int .i64 x.f0.f1, .int .i64 x.f1.f0, .int .i64 x.f1.f1] 29)) := (below_alloc (below_alloc (below_alloc (Below.refl w.heap.size w) _) _) _)
 have hsz_ : w.heap.size ≤ w.heap.size := Nat.le_refl _
 generalize hW_ : (((w.alloc (.cells #[.int .i64 s.nx, .int .i64 s.ny, .int .i64 s.cell, .int .i64 s.slot, .int .i64 s.slots, .int .i64 s.layers, .int .i64 s.most, .slice A7 s.shores.length c7, .slice A8 s.currents.length c8] 25)).alloc (.cells #[.int .i64 v.speed, .int .i64 v.dive, .int .i64 v.use.f0, .int .i64 v.use.f1, .int .i64 v.drift.f0, .int .i64 v.drift.f1, .int .i64 v.reserve] 41)).alloc (.cells #[.int .i64 x.f0.f0, .int .i64 x.f0.f1, .int .i64 x.f1.f0, .int .i64 x.f1.f1] 29)) = W1 at m4 m5 m6 mB ⊢
 clear hW_
 generalize hg4 : w.heap.size = g4 at m4 m5 m6 ⊢
 have hG4 : w.heap.size ≤ g4 := by omega
 generalize hg5 : g4 + 1 = g5 at m5 m6 ⊢
 have hn_4_5 : g4 ≠ g5 := by omega
 have hn_5_4 : g5 ≠ g4 := hn_4_5.symm
 have hG5 : w.heap.size ≤ g5 := by omega
 generalize hg6 : g5 + 1 = g6 at m6 ⊢
 have hn_4_6 : g4 ≠ g6 := by omega
 have hn_5_6 : g5 ≠ g6 := by omega
 have hn_6_4 : g6 ≠ g4 := hn_4_6.symm
 have hn_6_5 : g6 ≠ g5 := hn_5_6.symm
 have hG6 : w.heap.size ≤ g6 := by omega
 clear hsz_
 try clear hg6
 try clear hg5
 try clear hg4
 have hs_W1 : w.heap.size ≤ W1.heap.size := mB.size
 have hcon := newTrip_any2 s v A7 A8 c7 c8 w0 W1 (hb0.trans (mB.mono hb0.size)) h7 hC7 h8 hC8
 (with_reducible refine hcon.mono ?_)
 clear hcon
 rintro e W2 ⟨ptr, rfl, hb, ⟨h0, g, rfl, hg, hT, hTT⟩ | ⟨h0, rfl⟩⟩
 case inr =>
  have HZ := Lib.hid (HE.out.trans (if_pos h0))
  replace mB := below_step mB hb
  clear hb HE
  have h00 := Lib.hid h0
  generalize hE_ : tripE s v = E0 at *
  have hE := Lib.hid hE_
  clear hE_
  have hd : (E0 == 0) = false := beq_eq_false_iff_ne.2 h0
  have hd2 : (E0 != 0) = true := by rw [bne, hd]; rfl
  clear h0
  go_wp2
  go_ret2
  exact ⟨none, zq21, mB, .inr ⟨by rw [hE.out]; exact h00.out, rfl⟩⟩
 case inl =>
  have HZ := Lib.hid (HE.out.trans (if_neg (fun h => h h0)))
  clear HE
  have hg0 : w.heap.size ≤ g := Nat.le_trans (m := W1.heap.size) (by assumption) hg
  replace m4 := blk_below m4 hb
  replace m5 := blk_below m5 hb
  replace m6 := blk_below m6 hb
  replace mB := below_step mB hb
  clear hb
  have H0 := Lib.hid h0
  rw [h0]
  clear h0
  have hs_W2 : w.heap.size ≤ W2.heap.size := mB.size
  obtain ⟨c6_0, c6_1, c6_2, c6_3⟩ := zcs4 m6
  go_wp2_with fail
  clear c6_0 c6_1 c6_2 c6_3
  have hcon := place_any x t W2
  (with_reducible refine hcon.mono ?_)
  clear hcon
  rintro e W3 ⟨rfl, hb⟩
  have hgl : g < W2.heap.size := by obtain ⟨_, _, _, _, h_, _⟩ := hT; exact blk_lt h_
  have hTT2 : ∀ W', Below w0.heap.size w0 W' → W'.heap[g]? = W3.heap[g]? → TripAt W' g s v := fun W' h1 h2 => hTT W' h1 (h2.trans (hb.block g hgl))
  replace hT := hT.below hb
  have HTT := Lib.hid hTT2
  clear hTT hTT2
  replace m4 := blk_below m4 hb
  replace m5 := blk_below m5 hb
  replace m6 := blk_below m6 hb
  replace mB := below_step mB hb
  clear hb
  go_wp2
  go_ret2
  exact ⟨_, zq21, mB, .inl ⟨H0.out, g, rfl, hg0, hT, HTT.out⟩⟩
/-- What Reach returns. -/
def ReachX (s : Sea) (v : Veh) (x : S29) (t d : Int) : List S29 × Int := if beginE s v x t ≠ 0 then ([], beginE s v x t) else if d < 0 ∨ d > 64 then ([], 3) else hullsI s v d.toNat x t []
set_option maxRecDepth 100000 in
set_option maxHeartbeats 8000000 in
theorem Reach_any (s : Sea) (v : Veh) (x : S29) (t d : Int) (A7 A8 : Option Addr) (c7 c8 : Nat) (w : World) (h7 : s.shores.length ≤ c7) (hC7 : Kd.C Kd.bool w A7 s.shores.length s.shores) (h8 : s.currents.length ≤ c8) (hC8 : Kd.C k33 w A8 s.currents.length s.currents) :
  Calls Try.prog 44 #[.agg #[.int .i64 s.nx, .int .i64 s.ny, .int .i64 s.cell, .int .i64 s.slot, .int .i64 s.slots, .int .i64 s.layers, .int .i64 s.most, .slice A7 s.shores.length c7, .slice A8 s.currents.length c8], .agg #[.int .i64 v.speed, .int .i64 v.dive, .int .i64 v.use.f0, .int .i64 v.use.f1, .int .i64 v.drift.f0, .int .i64 v.drift.f1, .int .i64 v.reserve], .agg #[.int .i64 x.f0.f0, .int .i64 x.f0.f1, .int .i64 x.f1.f0, .int .i64 x.f1.f1], .int .i64 t, .int .i64 d] w (HullPost (ReachX s v x t d) w) := by
 have hu25 := Try.underlying25
 have hu41 := Try.underlying41
 have hu29 := Try.underlying29
 have hu27 := Try.underlying27
 have HX : Hid (ReachX s v x t d = if beginE s v x t ≠ 0 then ([], beginE s v x t) else if d < 0 ∨ d > 64 then ([], 3) else hullsI s v d.toNat x t []) := Lib.hid rfl
 go_enter Try.func44, Try.ntmps44
 go_wp2_with fail
 have m5 : Blk (((w.alloc (.cells #[.int .i64 s.nx, .int .i64 s.ny, .int .i64 s.cell, .int .i64 s.slot, .int .i64 s.slots, .int .i64 s.layers, .int .i64 s.most, .slice A7 s.shores.length c7, .slice A8 s.currents.length c8] 25)).alloc (.cells #[.int .i64 v.speed, .int .i64 v.dive, .int .i64 v.use.f0, .int .i64 v.use.f1, .int .i64 v.drift.f0, .int .i64 v.drift.f1, .int .i64 v.reserve] 41)).alloc (.cells #[.int .i64 x.f0.f0, .int .i64 x.f0.f1, .int .i64 x.f1.f0, .int .i64 x.f1.f1] 29)) (w.heap.size) #[.int .i64 s.nx, .int .i64 s.ny, .int .i64 s.cell, .int .i64 s.slot, .int .i64 s.slots, .int .i64 s.layers, .int .i64 s.most, .slice A7 s.shores.length c7, .slice A8 s.currents.length c8] 25 := (blk_alloc (blk_alloc zq20 _) _)
 have m6 : Blk (((w.alloc (.cells #[.int .i64 s.nx, .int .i64 s.ny, .int .i64 s.cell, .int .i64 s.slot, .int .i64 s.slots, .int .i64 s.layers, .int .i64 s.most, .slice A7 s.shores.length c7, .slice A8 s.currents.length c8] 25)).alloc (.cells #[.int .i64 v.speed, .int .i64 v.dive, .int .i64 v.use.f0, .int .i64 v.use.f1, .int .i64 v.drift.f0, .int .i64 v.drift.f1, .int .i64 v.reserve] 41)).alloc (.cells #[.int .i64 x.f0.f0, .int .i64 x.f0.f1, .int .i64 x.f1.f0, .int .i64 x.f1.f1] 29)) (w.heap.size + 1) #[.int .i64 v.speed, .int .i64 v.dive, .int .i64 v.use.f0, .int .i64 v.use.f1, .int .i64 v.drift.f0, .int .i64 v.drift.f1, .int .i64 v.reserve] 41 := (blk_alloc zq35 _)
 have m7 : Blk (((w.alloc (.cells #[.int .i64 s.nx, .int .i64 s.ny, .int .i64 s.cell, .int .i64 s.slot, .int .i64 s.slots, .int .i64 s.layers, .int .i64 s.most, .slice A7 s.shores.length c7, .slice A8 s.currents.length c8] 25)).alloc (.cells #[.int .i64 v.speed, .int .i64 v.dive, .int .i64 v.use.f0, .int .i64 v.use.f1, .int .i64 v.drift.f0, .int .i64 v.drift.f1, .int .i64 v.reserve] 41)).alloc (.cells #[.int .i64 x.f0.f0, .int .i64 x.f0.f1, .int .i64 x.f1.f0, .int .i64 x.f1.f1] 29)) (w.heap.size + 1 + 1) #[.int .i64 x.f0.f0, .int .i64 x.f0.f1, .int .i64 x.f1.f0, .int .i64 x.f1.f1] 29 := zq36
 have mB : Below w.heap.size w (((w.alloc (.cells #[.int .i64 s.nx, .int .i64 s.ny, .int .i64 s.cell, .int .i64 s.slot, .int .i64 s.slots, .int .i64 s.layers, .int .i64 s.most, .slice A7 s.shores.length c7, .slice A8 s.currents.length c8] 25)).alloc (.cells #[.int .i64 v.speed, .int .i64 v.dive, .int .i64 v.use.f0, .int .i64 v.use.f1, .int .i64 v.drift.f0, .int .i64 v.drift.f1, .int .i64 v.reserve] 41)).alloc (.cells #[.int .i64 x.f0.f0, .int .i64 x.f0.f1, .int .i64 x.f1.f0, .int .i64 x.f1.f1] 29)) := (below_alloc (below_alloc (below_alloc (Below.refl w.heap.size w) _) _) _)
 have hsz_ : w.heap.size ≤ w.heap.size := Nat.le_refl _
 generalize hW_ : (((w.alloc (.cells #[.int .i64 s.nx, .int .i64 s.ny, .int .i64 s.cell, .int .i64 s.slot, .int .i64 s.slots, .int .i64 s.layers, .int .i64 s.most, .slice A7 s.shores.length c7, .slice A8 s.currents.length c8] 25)).alloc (.cells #[.int .i64 v.speed, .int .i64 v.dive, .int .i64 v.use.f0, .int .i64 v.use.f1, .int .i64 v.drift.f0, .int .i64 v.drift.f1, .int .i64 v.reserve] 41)).alloc (.cells #[.int .i64 x.f0.f0, .int .i64 x.f0.f1, .int .i64 x.f1.f0, .int .i64 x.f1.f1] 29)) = W1 at m5 m6 m7 mB ⊢
 clear hW_
 generalize hg5 : w.heap.size = g5 at m5 m6 m7 ⊢
 have hG5 : w.heap.size ≤ g5 := by omega
 generalize hg6 : g5 + 1 = g6 at m6 m7 ⊢
 have hn_5_6 : g5 ≠ g6 := by omega
 have hn_6_5 : g6 ≠ g5 := hn_5_6.symm
 have hG6 : w.heap.size ≤ g6 := by omega
 generalize hg7 : g6 + 1 = g7 at m7 ⊢
 have hn_5_7 : g5 ≠ g7 := by omega
 have hn_6_7 : g6 ≠ g7 := by omega
 have hn_7_5 : g7 ≠ g5 := hn_5_7.symm
 have hn_7_6 : g7 ≠ g6 := hn_6_7.symm
 have hG7 : w.heap.size ≤ g7 := by omega
 clear hsz_
 try clear hg7
 try clear hg6
 try clear hg5
 have hs_W1 : w.heap.size ≤ W1.heap.size := mB.size
 have hbg : beginE s v x t = if tripE s v ≠ 0 then tripE s v else placeE x t := rfl
 have HBG := Lib.hid hbg
 clear hbg
 obtain ⟨c5_0, c5_1, c5_2, c5_3, c5_4, c5_5, c5_6, c5_7, c5_8⟩ := zcs9 m5
 obtain ⟨c6_0, c6_1, c6_2, c6_3, c6_4, c6_5, c6_6⟩ := zcs7 m6
 obtain ⟨c7_0, c7_1, c7_2, c7_3⟩ := zcs4 m7
 go_wp2_with fail
 clear c5_0 c5_1 c5_2 c5_3 c5_4 c5_5 c5_6 c5_7 c5_8 c6_0 c6_1 c6_2 c6_3 c6_4 c6_5 c6_6 c7_0 c7_1 c7_2 c7_3
 have hcon := begin_any s v x t A7 A8 c7 c8 W1 h7 (Kd.C_below hC7 mB) h8 (Kd.C_below hC8 mB)
 (with_reducible refine hcon.mono ?_)
 clear hcon
 rintro e W2 ⟨ptr, rfl, hb, hpt⟩
 replace m5 := blk_below m5 hb
 replace m6 := blk_below m6 hb
 replace m7 := blk_below m7 hb
 replace mB := below_step mB hb
 clear hb
 have hs_W2 : w.heap.size ≤ W2.heap.size := mB.size
 generalize hE_ : beginE s v x t = E0 at *
 have HE0 := Lib.hid hE_
 clear hE_
 by_cases h0 : E0 = 0
 case neg =>
  have HZ := Lib.hid (HX.out.trans (if_pos h0))
  have hd1 : (E0 == 0) = false := beq_eq_false_iff_ne.2 h0
  have hd2 : (E0 != 0) = true := by rw [bne, hd1]; rfl
  clear h0 hpt HX
  go_wp2
  go_ret2
  exact ⟨_, zq21, zq38, mB⟩
 case pos =>
  have HX2 := Lib.hid (HX.out.trans (if_neg (fun h => h h0)))
  clear HX
  have hb0 := HBG.out.symm.trans h0
  obtain ⟨ht0, hp0⟩ := ite_ne_zero hb0
  obtain ⟨hbx, htt0, htt1⟩ := place_ok hp0
  obtain ⟨hSV, hVN⟩ := tripE_ok ht0
  rcases hpt with ⟨_, g, rfl, hg, hT⟩ | ⟨hbad, _⟩
  case inr => exact absurd ht0 hbad
  case inl =>
   subst h0
   clear hb0 ht0 hp0 HBG
   by_cases hd : d < 0 ∨ d > 64
   case pos =>
    have HZ := Lib.hid (HX2.out.trans (if_pos hd))
    clear HX2
    by_cases hq : d < 0
    case pos =>
     clear hd
     go_wp2
     go_ret2
     exact ⟨_, zq21, zq38, mB⟩
    case neg =>
     have hq2 : d > 64 := by omega
     clear hd
     go_wp2
     go_ret2
     exact ⟨_, zq21, zq38, mB⟩
   case neg =>
    have HX3 := Lib.hid (HX2.out.trans (if_neg hd))
    clear HX2
    have hq : ¬ d < 0 := by omega
    have hq2 : ¬ d > 64 := by omega
    clear hd
    obtain ⟨m, rfl⟩ : ∃ m : Nat, d = m := ⟨d.toNat, by omega⟩
    skip
    obtain ⟨c7_0, c7_1, c7_2, c7_3⟩ := zcs4 m7
    go_wp2_with fail
    clear c7_0 c7_1 c7_2 c7_3
    skip
    have hcon := hulls_any g s v x t m W2 hT hSV hVN hbx htt0 htt1 (by omega)
    rw [Int.toNat_natCast] at HX3
    (with_reducible refine hcon.mono ?_)
    clear hcon
    rintro e W5 ⟨v0_, rfl, HR, hb⟩
    generalize hullsI s v m x t [] = R at *
    go_wp2
    go_ret2
    exact ⟨_, by rw [HX3.out]; rfl, by rw [HX3.out]; exact Kd.R_lower HR mB.size, below_step mB hb⟩
end Go.Proofs.Ythglkoddmpicdaa.Gl
end
section
/- The contracts of exported functions, as the printed texts ask for them. -/
namespace Go.Proofs.Ythglkoddmpicdaa.Pr
open Go.RowKit Go.Proofs.YthglkoddmpicdaaW.PrintWords Go.Proofs.YthglkoddmpicdaaW.PrintLast Go.Proofs.YthglkoddmpicdaaW.PrintMore Go.Proofs.Ythglkoddmpicdaa.Gl
set_option linter.unusedVariables false
def glider_Reach.f (a0_0 : Int) (a0_1 : Int) (a0_2 : Int) (a0_3 : Int) (a0_4 : Int) (a0_5 : Int) (a0_6 : Int) (l0_7 : List Bool) (l0_8 : List (S33)) (a1_0 : Int) (a1_1 : Int) (a1_2 : Int) (a1_3 : Int) (a1_4 : Int) (a1_5 : Int) (a1_6 : Int) (a2_0 : Int) (a2_1 : Int) (a2_2 : Int) (a2_3 : Int) (a3 : Int) (a4 : Int) : Option ((List (S29)) × Int) := some (ReachX ⟨a0_0, a0_1, a0_2, a0_3, a0_4, a0_5, a0_6, l0_7, l0_8⟩ ⟨a1_0, a1_1, ⟨a1_2, a1_3⟩, ⟨a1_4, a1_5⟩, a1_6⟩ ⟨⟨a2_0, a2_1⟩, ⟨a2_2, a2_3⟩⟩ a3 a4)
theorem glider_Reach.calls (a0_0 : Int) (a0_1 : Int) (a0_2 : Int) (a0_3 : Int) (a0_4 : Int) (a0_5 : Int) (a0_6 : Int) (A0_7 : Option Addr) (c0_7 : Nat) (l0_7 : List Bool) (A0_8 : Option Addr) (c0_8 : Nat) (l0_8 : List (S33)) (a1_0 : Int) (a1_1 : Int) (a1_2 : Int) (a1_3 : Int) (a1_4 : Int) (a1_5 : Int) (a1_6 : Int) (a2_0 : Int) (a2_1 : Int) (a2_2 : Int) (a2_3 : Int) (a3 : Int) (a4 : Int) (r1 : List (S29)) (r2 : Int) (w : World) (hr0_7 : Kd.C Kd.bool w A0_7 l0_7.length l0_7) (hc0_7 : l0_7.length ≤ c0_7) (hr0_8 : Kd.C k33 w A0_8 l0_8.length l0_8) (hc0_8 : l0_8.length ≤ c0_8) (h : glider_Reach.f a0_0 a0_1 a0_2 a0_3 a0_4 a0_5 a0_6 l0_7 l0_8 a1_0 a1_1 a1_2 a1_3 a1_4 a1_5 a1_6 a2_0 a2_1 a2_2 a2_3 a3 a4 = some (r1, r2)) :
  Calls Try.prog 44 #[.agg #[.int .i64 a0_0, .int .i64 a0_1, .int .i64 a0_2, .int .i64 a0_3, .int .i64 a0_4, .int .i64 a0_5, .int .i64 a0_6, .slice A0_7 l0_7.length c0_7, .slice A0_8 l0_8.length c0_8], .agg #[.int .i64 a1_0, .int .i64 a1_1, .int .i64 a1_2, .int .i64 a1_3, .int .i64 a1_4, .int .i64 a1_5, .int .i64 a1_6], .agg #[.int .i64 a2_0, .int .i64 a2_1, .int .i64 a2_2, .int .i64 a2_3], .int .i64 a3, .int .i64 a4] w fun e w' => ∃ v0_ : Value, e = .returned (.tuple #[v0_, .int .i64 r2]) ∧ Kd.R k29 29 w' w.heap.size (fun _ => True) v0_ r1 ∧ Below w.heap.size w w' := by
 have e_ := Option.some.inj h
 have q_ := Reach_any ⟨a0_0, a0_1, a0_2, a0_3, a0_4, a0_5, a0_6, l0_7, l0_8⟩ ⟨a1_0, a1_1, ⟨a1_2, a1_3⟩, ⟨a1_4, a1_5⟩, a1_6⟩ ⟨⟨a2_0, a2_1⟩, ⟨a2_2, a2_3⟩⟩ a3 a4 A0_7 A0_8 c0_7 c0_8 w hc0_7 hr0_7 hc0_8 hr0_8
 rw [e_] at q_
 exact q_
end Go.Proofs.Ythglkoddmpicdaa.Pr
end
section
/- Is a run fetched, and is a pickup valid: what the program computes. -/
namespace Go.Proofs.Ythglkoddmpicdaa.Gl
open Go.RowKit Go.Proofs.YthglkoddmpicdaaW.PrintWords Go.Proofs.YthglkoddmpicdaaW.PrintLast Go.Proofs.YthglkoddmpicdaaW.PrintMore Go.Proofs.Ythglkoddmpicdaa.Pr
set_option linter.unusedVariables false
/-- Is a run fetched? -/
def fetI (dive : Int) (p : S44) : List S29 → Int → Int → Int
 | [], _, acc => acc
 | x :: l, t, acc => fetI dive p l (t + dive) (if p.f1 ≤ t + dive ∧ t + dive ≤ p.f2 then max acc (insI x p.f0) else acc)
theorem w64_in {x : Int} (h : -9223372036854775808 ≤ x ∧ x < 9223372036854775808) : wrap64 x = x := by unfold wrap64; omega
theorem fet_loop (v : Veh) (hv : vehB v = true) (p : S44) (l : List S29) (hl : l.length ≤ 64) : ∀ (m i K : Nat) (t acc : Int), i + m = l.length → m + 1 ≤ K → (0 ≤ t ∧ t ≤ 1073741824 + (i : Int) * 131072) →
  glider_fetched.l0 K t acc l (l.length : Int) (i : Int) v.speed v.dive v.use.f0 v.use.f1 v.drift.f0 v.drift.f1 v.reserve p.f0.f0.f0 p.f0.f0.f1 p.f0.f1.f0 p.f0.f1.f1 p.f1 p.f2 = some (fetI v.dive p (l.drop i) t acc)
 | 0, i, K + 1, t, acc, h, hk, h0 => by
  rw [glider_fetched.l0, if_neg (by omega), List.drop_eq_nil_of_le (by omega)]; rfl
 | m + 1, i, K + 1, t, acc, h, hk, h0 => by
  have hi : i < l.length := by omega
  have e : rd_T29 l (i : Int) = l[i] := by
   unfold rd_T29
   simp [hi]
  have hd : 1 ≤ v.dive ∧ v.dive ≤ 131072 := by
   unfold vehB at hv
   simp only [Bool.and_eq_true, btwB_iff] at hv
   omega
  rw [List.drop_eq_getElem_cons hi]
  unfold fetI
  rw [glider_fetched.l0, if_pos (by omega), if_pos (by omega), if_pos (by omega), e, w64_in (x := t + v.dive) (by omega), w64_in (x := (i : Int) + 1) (by omega), btw_some, Option.bind_some]
  have hin : glider_inside.f l[i].f0.f0 l[i].f0.f1 l[i].f1.f0 l[i].f1.f1 p.f0.f0.f0 p.f0.f0.f1 p.f0.f1.f0 p.f0.f1.f1 = some (insI l[i] p.f0) := rfl
  rw [hin, Option.bind_some]
  have ih := fun acc2 => fet_loop v hv p l hl m (i + 1) K (t + v.dive) acc2 (by omega) (by omega) ⟨by omega, by omega⟩
  by_cases hb : p.f1 ≤ t + v.dive ∧ t + v.dive ≤ p.f2
  ·rw [if_pos (btwB_iff.2 hb), if_pos hb, mx_max']
   exact ih _
  ·rw [if_neg (fun hq => hb (btwB_iff.1 hq)), if_neg hb]
   exact ih _
theorem fet_some (v : Veh) (hv : vehB v = true) (p : S44) (l : List S29) (hl : l.length ≤ 64) (t : Int) (ht : 0 ≤ t ∧ t ≤ 1073741824) (K : Nat) (hk : l.length + 1 ≤ K) :
  glider_fetched.f K v.speed v.dive v.use.f0 v.use.f1 v.drift.f0 v.drift.f1 v.reserve t l p.f0.f0.f0 p.f0.f0.f1 p.f0.f1.f0 p.f0.f1.f1 p.f1 p.f2 = some (fetI v.dive p l t 0) := by
 have := fet_loop v hv p l hl l.length 0 K t 0 (Nat.zero_add _) hk ⟨ht.1, by omega⟩
 rw [List.drop_zero] at this
 exact this
/-- Is a pickup valid? -/
def pickB (p : S44) : Bool := boxB p.f0 && decide (0 ≤ p.f1) && decide (p.f1 ≤ p.f2) && decide (p.f2 ≤ 1073741824)
theorem pick_some (p : S44) : glider_validPickup.f 4 p.f0.f0.f0 p.f0.f0.f1 p.f0.f1.f0 p.f0.f1.f1 p.f1 p.f2 = some (pickB p) := by
 unfold glider_validPickup.f pickB
 rw [box_some p.f0, Option.bind_some]
 unfold boxE
 cases boxB p.f0 with
 | false => rfl
 | true =>
  rw [if_pos rfl, if_pos rfl]
  by_cases h1 : p.f1 ≥ 0
  ·rw [if_pos h1, decide_eq_true (show 0 ≤ p.f1 from h1)]
   by_cases h2 : p.f1 ≤ p.f2
   ·rw [if_pos h2, decide_eq_true h2]; rfl
   ·rw [if_neg h2, decide_eq_false h2]; rfl
  ·rw [if_neg h1, decide_eq_false (show ¬(0 ≤ p.f1) from h1)]; rfl
end Go.Proofs.Ythglkoddmpicdaa.Gl
end
section
namespace Go.Proofs.Ythglkoddmpicdaa.Pr
open Go.RowKit Go.Proofs.YthglkoddmpicdaaW.PrintWords Go.Proofs.YthglkoddmpicdaaW.PrintLast Go.Proofs.YthglkoddmpicdaaW.PrintMore
attribute [local go_sem] max2_int min2_int max_two min_two max_four
set_option linter.unusedVariables false
set_option linter.unusedSimpArgs false

/-! ### glider_fetchedAny: function 108 -/
def glider_fetchedAny.l0 : Nat → Int → List (S29) → Int → Int → Int → Int → Int → Int → Int → Int → Int → Int → Int → Int → Int → Int → Int → Option (Bool)
 | 0, _, _, _, _, _, _, _, _, _, _, _, _, _, _, _, _, _ => none
 | k + 1, x1, x11, x12, x13, x685000, x685001, x685002, x685003, x685004, x685005, x685006, x686000, x686001, x686002, x686003, x686004, x686005 => if x13 < x12 then (if 0 ≤ x13 then (if x13 < (x11.length : Int) then ((glider_between.f (wrap64 (x1 + x685001)) x686004 x686005).bind fun t688 => (if t688 = true then ((glider_inside.f ((rd_T29 x11 x13).f0.f0) ((rd_T29 x11 x13).f0.f1) ((rd_T29 x11 x13).f1.f0) ((rd_T29 x11 x13).f1.f1) x686000 x686001 x686002 x686003).bind fun t689 => (if t689 = 0 then (glider_fetchedAny.l0 k (wrap64 (x1 + x685001)) x11 x12 (wrap64 (x13 + 1)) x685000 x685001 x685002 x685003 x685004 x685005 x685006 x686000 x686001 x686002 x686003 x686004 x686005) else (some true))) else (glider_fetchedAny.l0 k (wrap64 (x1 + x685001)) x11 x12 (wrap64 (x13 + 1)) x685000 x685001 x685002 x685003 x685004 x685005 x685006 x686000 x686001 x686002 x686003 x686004 x686005))) else (none)) else (none)) else (some false)
def glider_fetchedAny.f (k : Nat) (a0_0 : Int) (a0_1 : Int) (a0_2 : Int) (a0_3 : Int) (a0_4 : Int) (a0_5 : Int) (a0_6 : Int) (a1 : Int) (l2 : List (S29)) (a3_0 : Int) (a3_1 : Int) (a3_2 : Int) (a3_3 : Int) (a3_4 : Int) (a3_5 : Int) : Option (Bool) := glider_fetchedAny.l0 k a1 l2 (l2.length : Int) 0 a0_0 a0_1 a0_2 a0_3 a0_4 a0_5 a0_6 a3_0 a3_1 a3_2 a3_3 a3_4 a3_5
set_option maxHeartbeats 8000000 in
set_option maxRecDepth 100000 in
theorem glider_fetchedAny.calls (k : Nat) (a0_0 : Int) (a0_1 : Int) (a0_2 : Int) (a0_3 : Int) (a0_4 : Int) (a0_5 : Int) (a0_6 : Int) (a1 : Int) (A2 : Option Addr) (c2 : Nat) (l2 : List (S29)) (a3_0 : Int) (a3_1 : Int) (a3_2 : Int) (a3_3 : Int) (a3_4 : Int) (a3_5 : Int) (r : Bool) (w : World) (hr2 : Kd.C k29 w A2 l2.length l2) (hc2 : l2.length ≤ c2) (h : glider_fetchedAny.f k a0_0 a0_1 a0_2 a0_3 a0_4 a0_5 a0_6 a1 l2 a3_0 a3_1 a3_2 a3_3 a3_4 a3_5 = some r) :
  Calls Try.prog 108 #[.agg #[.int .i64 a0_0, .int .i64 a0_1, .int .i64 a0_2, .int .i64 a0_3, .int .i64 a0_4, .int .i64 a0_5, .int .i64 a0_6], .int .i64 a1, .slice A2 l2.length c2, .agg #[.int .i64 a3_0, .int .i64 a3_1, .int .i64 a3_2, .int .i64 a3_3, .int .i64 a3_4, .int .i64 a3_5]] w fun e w' => e = .returned (.bool r) ∧ Below w.heap.size w w' := by
 have hu41 := Try.underlying41
 have hu44 := Try.underlying44
 have hu29 := Try.underlying29
 have HR2 := Aside0.mk hr2
 have HC2 := Aside0.mk hc2
 clear hr2 hc2
 have HB := Aside0.mk (Below.refl w.heap.size w)
 have H : (glider_fetchedAny.l0 k a1 l2 (l2.length : Int) 0 a0_0 a0_1 a0_2 a0_3 a0_4 a0_5 a0_6 a3_0 a3_1 a3_2 a3_3 a3_4 a3_5) = some r := h
 clear h
 have H' := Aside0.mk H
 clear H
 go_enter Try.func108, Try.ntmps108
 go_wp2_with (first | ((with_reducible refine gate_dst (N := 4) rfl ?_); refine box_event (by rfl) (N := 4) (by rfl) (cs := #[.int .i64 a0_0, .int .i64 a0_1, .int .i64 a0_2, .int .i64 a0_3, .int .i64 a0_4, .int .i64 a0_5, .int .i64 a0_6]) (t := 41) zq1 ?_; intro gb684 hg w5 hbox hb; have BK684 := Aside0.mk (hbox); have GW684 := zgs HB hg; have GE684 := zgs HB hg; replace HB := zbs HB hb; clear hb hbox hg) | ((with_reducible refine gate_dst (N := 7) rfl ?_); refine box_event (by rfl) (N := 7) (by rfl) (cs := #[.int .i64 a3_0, .int .i64 a3_1, .int .i64 a3_2, .int .i64 a3_3, .int .i64 a3_4, .int .i64 a3_5]) (t := 44) zq1 ?_; intro gb685 hg w6 hbox hb; have BK685 := Aside0.mk (hbox); have GW685 := zgs HB hg; have GE685 := zgs HB hg; have NB684_685 := znp BK684 hg; have NB685_684 := znq BK684 hg; replace BK684 := zbb BK684 hb; replace HB := zbs HB hb; clear hb hbox hg))
 go_loopg [1, 13] k (fun kq v1 v13 w' => ∃ (x1_1 : Int) (x13_1 : Int), v1 = .int .i64 x1_1 ∧ v13 = .int .i64 x13_1 ∧ Aside0 (glider_fetchedAny.l0 kq x1_1 l2 (l2.length : Int) x13_1 a0_0 a0_1 a0_2 a0_3 a0_4 a0_5 a0_6 a3_0 a3_1 a3_2 a3_3 a3_4 a3_5 = some r) ∧ Aside0 (kq ≤ k) ∧ Aside0 (w'.heap[gb684]? = some (.cells #[.int .i64 a0_0, .int .i64 a0_1, .int .i64 a0_2, .int .i64 a0_3, .int .i64 a0_4, .int .i64 a0_5, .int .i64 a0_6] 41 (0, 0))) ∧ Aside0 (w'.heap[gb685]? = some (.cells #[.int .i64 a3_0, .int .i64 a3_1, .int .i64 a3_2, .int .i64 a3_3, .int .i64 a3_4, .int .i64 a3_5] 44 (0, 0))) ∧ Aside0 (Below w.heap.size w w'))
 case atStart => exact ⟨(a1), (0), zq4, zq4, H', ⟨Nat.le_refl _⟩, ⟨zbf⟩, ⟨zbf⟩, ⟨zbz⟩⟩
 case round =>
  clear H'
  try clear c1
  try clear c2
  try clear p2
  obtain ⟨x1_1, x13_1, rfl, rfl, HA, HK1, BK684, BK685, HB⟩ := hrel
  cases gk with
  | zero => exact absurd HA.out (by simp [glider_fetchedAny.l0])
  | succ k1 =>
   have H := HA.out
   clear HA
   simp only [glider_fetchedAny.l0] at H
   by_cases c7 : x13_1 < (l2.length : Int)
   ·rw [if_pos c7] at H
    have c7b0 : decide (x13_1 < (l2.length : Int)) = true := decide_eq_true c7
    clear c7
    by_cases c8 : 0 ≤ x13_1
    ·rw [if_pos c8] at H
     have c8b0 : decide (0 ≤ x13_1) = true := decide_eq_true c8
     clear c8
     by_cases c9 : x13_1 < (l2.length : Int)
     ·rw [if_pos c9] at H
      have c9b0 : decide (x13_1 < (l2.length : Int)) = true := decide_eq_true c9
      clear c9
      replace H := Option.bind_eq_some_iff.mp H
      obtain ⟨t688, A100, H⟩ := H
      replace H : (if t688 = true then ((glider_inside.f ((rd_T29 l2 x13_1).f0.f0) ((rd_T29 l2 x13_1).f0.f1) ((rd_T29 l2 x13_1).f1.f0) ((rd_T29 l2 x13_1).f1.f1) a3_0 a3_1 a3_2 a3_3).bind fun t689 => (if t689 = 0 then (glider_fetchedAny.l0 k1 (wrap64 (x1_1 + a0_1)) l2 (l2.length : Int) (wrap64 (x13_1 + 1)) a0_0 a0_1 a0_2 a0_3 a0_4 a0_5 a0_6 a3_0 a3_1 a3_2 a3_3 a3_4 a3_5) else (some true))) else (glider_fetchedAny.l0 k1 (wrap64 (x1_1 + a0_1)) l2 (l2.length : Int) (wrap64 (x13_1 + 1)) a0_0 a0_1 a0_2 a0_3 a0_4 a0_5 a0_6 a3_0 a3_1 a3_2 a3_3 a3_4 a3_5)) = some r := H
      have A10 := Aside0.mk A100
      clear A100
      by_cases c11 : t688 = true
      ·subst c11
       have H1 : ((glider_inside.f ((rd_T29 l2 x13_1).f0.f0) ((rd_T29 l2 x13_1).f0.f1) ((rd_T29 l2 x13_1).f1.f0) ((rd_T29 l2 x13_1).f1.f1) a3_0 a3_1 a3_2 a3_3).bind fun t689 => (if t689 = 0 then (glider_fetchedAny.l0 k1 (wrap64 (x1_1 + a0_1)) l2 (l2.length : Int) (wrap64 (x13_1 + 1)) a0_0 a0_1 a0_2 a0_3 a0_4 a0_5 a0_6 a3_0 a3_1 a3_2 a3_3 a3_4 a3_5) else (some true))) = some r := by rw [if_pos rfl] at H; exact H
       clear H
       have H := H1
       clear H1
       replace H := Option.bind_eq_some_iff.mp H
       obtain ⟨t689, A120, H⟩ := H
       replace H : (if t689 = 0 then (glider_fetchedAny.l0 k1 (wrap64 (x1_1 + a0_1)) l2 (l2.length : Int) (wrap64 (x13_1 + 1)) a0_0 a0_1 a0_2 a0_3 a0_4 a0_5 a0_6 a3_0 a3_1 a3_2 a3_3 a3_4 a3_5) else (some true)) = some r := H
       have A12 := Aside0.mk A120
       clear A120
       by_cases c13 : t689 = 0
       ·rw [if_pos c13] at H
        have c13b0 : (t689 == 0) = true := beq_iff_eq.mpr c13
        have c13b1 : (t689 != 0) = false := bne_eq_false_iff_eq.mpr c13
        clear c13
        have H' := Aside0.mk H
        clear H
        have p686 : 0 ≤ (x13_1 : Int) := of_decide_eq_true zq5
        have q686 : x13_1 < (l2.length : Int) := of_decide_eq_true zq5
        obtain ⟨ad686, e686, hx686_0, hx686_1, hx686_2, hx686_3⟩ := at_T29 HR2.out x13_1 p686 q686
        cases e686
        replace hx686_0 := (HB.out.cell (World.block_lt_of_cell? w _ hx686_0)).trans hx686_0
        replace hx686_1 := (HB.out.cell (World.block_lt_of_cell? w _ hx686_1)).trans hx686_1
        replace hx686_2 := (HB.out.cell (World.block_lt_of_cell? w _ hx686_2)).trans hx686_2
        replace hx686_3 := (HB.out.cell (World.block_lt_of_cell? w _ hx686_3)).trans hx686_3
        replace p686 := eq_true p686
        replace q686 := eq_true q686
        go_wp2_with (first | ((with_reducible refine gate_dst (N := 10) rfl ?_); refine box_event (by rfl) (N := 10) (by rfl) (cs := #[.int .i64 0, .int .i64 0, .int .i64 0, .int .i64 0]) (t := 29) zq1 ?_; intro gb687 hg w14 hbox hb; have BK687 := Aside0.mk (hbox); have GW687 := zgs HB hg; have GE687 := zgs HB hg; have NB684_687 := znp BK684 hg; have NB687_684 := znq BK684 hg; have NB685_687 := znp BK685 hg; have NB687_685 := znq BK685 hg; replace BK684 := zbb BK684 hb; replace BK685 := zbb BK685 hb; replace HB := zbs HB hb; clear hb hbox hg; have hnb15 := NB687_684.out; have hnc15 := NB684_687.out; have hnb16 := NB687_685.out; have hnc16 := NB685_687.out; obtain ⟨hcz17_0, hcz17_1, hcz17_2, hcz17_3, hfz17_0, hfz17_1, hfz17_2, hfz17_3⟩ := zce4 BK687.out; have hnb18 := NB684_685.out; have hnc18 := NB685_684.out; obtain ⟨hcz19_0, hcz19_1, hcz19_2, hcz19_3, hcz19_4, hcz19_5, hcz19_6, hfz19_0, hfz19_1, hfz19_2, hfz19_3, hfz19_4, hfz19_5, hfz19_6⟩ := zce7 BK684.out; obtain ⟨hcz20_0, hcz20_1, hcz20_2, hcz20_3, hcz20_4, hcz20_5, hfz20_0, hfz20_1, hfz20_2, hfz20_3, hfz20_4, hfz20_5⟩ := zce6 BK685.out) | ((with_reducible refine gate_callee (f := 63) rfl ?_); refine goesL_ (some 26) rfl rfl Try.func63 zq3 rfl #[.int .i64 (wrap64 (x1_1 + a0_1)), .int .i64 a3_4, .int .i64 a3_5] rfl zq8 ?_; (with_reducible refine (glider_between.calls (wrap64 (x1_1 + a0_1)) a3_4 a3_5 true _ A10.out).mono ?_); rintro e w' ⟨rfl, ⟨nd, rfl⟩⟩; refine ⟨_, rfl, ?_⟩) | (go_at_call 72; (with_reducible refine (glider_inside.calls ((rd_T29 l2 x13_1).f0.f0) ((rd_T29 l2 x13_1).f0.f1) ((rd_T29 l2 x13_1).f1.f0) ((rd_T29 l2 x13_1).f1.f1) a3_0 a3_1 a3_2 a3_3 t689 _ A12.out).mono ?_); rintro e w21 ⟨rfl, hb⟩; have n0_ := zbb BK684 hb; have n1_ := zbb BK685 hb; have n2_ := Aside0.mk (blk_below (g := gb687) (o := .cells #[.int .i64 ((rd_T29 l2 x13_1).f0.f0), .int .i64 ((rd_T29 l2 x13_1).f0.f1), .int .i64 ((rd_T29 l2 x13_1).f1.f0), .int .i64 ((rd_T29 l2 x13_1).f1.f1)] 29 (0, 0)) (by (with_reducible repeat (first | refine blk_drewN ?_ _ | refine blk_drew ?_ | refine blk_alloc ?_ _)); refine blk_put (cs := #[.int .i64 ((rd_T29 l2 x13_1).f0.f0), .int .i64 ((rd_T29 l2 x13_1).f0.f1), .int .i64 ((rd_T29 l2 x13_1).f1.f0), .int .i64 0]) ?_ 3 _ rfl; (with_reducible repeat (first | refine blk_drewN ?_ _ | refine blk_drew ?_ | refine blk_alloc ?_ _)); refine blk_put (cs := #[.int .i64 ((rd_T29 l2 x13_1).f0.f0), .int .i64 ((rd_T29 l2 x13_1).f0.f1), .int .i64 0, .int .i64 0]) ?_ 2 _ rfl; (with_reducible repeat (first | refine blk_drewN ?_ _ | refine blk_drew ?_ | refine blk_alloc ?_ _)); refine blk_put (cs := #[.int .i64 ((rd_T29 l2 x13_1).f0.f0), .int .i64 0, .int .i64 0, .int .i64 0]) ?_ 1 _ rfl; (with_reducible repeat (first | refine blk_drewN ?_ _ | refine blk_drew ?_ | refine blk_alloc ?_ _)); refine blk_put (cs := #[.int .i64 0, .int .i64 0, .int .i64 0, .int .i64 0]) ?_ 0 _ rfl; (with_reducible repeat (first | refine blk_drewN ?_ _ | refine blk_drew ?_ | refine blk_alloc ?_ _)); exact BK687.out) hb); have n3_ := zbs HB hb; clear BK684; clear BK685; clear BK687; clear HB; have BK684 := n0_; have BK685 := n1_; have BK687 := n2_; have HB := n3_; clear n0_ n1_ n2_ n3_; (try clear hb); (try clear hb2); (try clear hk); (try clear hi)))
        go_roundg k1
        case measure => have := HK1.out; omega
        case rel => exact ⟨(wrap64 (x1_1 + a0_1)), (wrap64 (x13_1 + 1)), zq4, zq4, H', ⟨zq6⟩, ⟨zbf⟩, ⟨zbf⟩, ⟨zbz⟩⟩
       ·rw [if_neg c13] at H
        have c13b0 : (t689 == 0) = false := beq_eq_false_iff_ne.mpr c13
        have c13b1 : (t689 != 0) = true := bne_iff_ne.mpr c13
        obtain rfl := Option.some.inj H
        have p686 : 0 ≤ (x13_1 : Int) := of_decide_eq_true zq5
        have q686 : x13_1 < (l2.length : Int) := of_decide_eq_true zq5
        obtain ⟨ad686, e686, hx686_0, hx686_1, hx686_2, hx686_3⟩ := at_T29 HR2.out x13_1 p686 q686
        cases e686
        replace hx686_0 := (HB.out.cell (World.block_lt_of_cell? w _ hx686_0)).trans hx686_0
        replace hx686_1 := (HB.out.cell (World.block_lt_of_cell? w _ hx686_1)).trans hx686_1
        replace hx686_2 := (HB.out.cell (World.block_lt_of_cell? w _ hx686_2)).trans hx686_2
        replace hx686_3 := (HB.out.cell (World.block_lt_of_cell? w _ hx686_3)).trans hx686_3
        replace p686 := eq_true p686
        replace q686 := eq_true q686
        go_wp2_with (first | ((with_reducible refine gate_dst (N := 10) rfl ?_); refine box_event (by rfl) (N := 10) (by rfl) (cs := #[.int .i64 0, .int .i64 0, .int .i64 0, .int .i64 0]) (t := 29) zq1 ?_; intro gb687 hg w22 hbox hb; have BK687 := Aside0.mk (hbox); have GW687 := zgs HB hg; have GE687 := zgs HB hg; have NB684_687 := znp BK684 hg; have NB687_684 := znq BK684 hg; have NB685_687 := znp BK685 hg; have NB687_685 := znq BK685 hg; replace BK684 := zbb BK684 hb; replace BK685 := zbb BK685 hb; replace HB := zbs HB hb; clear hb hbox hg; have hnb23 := NB687_684.out; have hnc23 := NB684_687.out; have hnb24 := NB687_685.out; have hnc24 := NB685_687.out; obtain ⟨hcz25_0, hcz25_1, hcz25_2, hcz25_3, hfz25_0, hfz25_1, hfz25_2, hfz25_3⟩ := zce4 BK687.out; have hnb26 := NB684_685.out; have hnc26 := NB685_684.out; obtain ⟨hcz27_0, hcz27_1, hcz27_2, hcz27_3, hcz27_4, hcz27_5, hcz27_6, hfz27_0, hfz27_1, hfz27_2, hfz27_3, hfz27_4, hfz27_5, hfz27_6⟩ := zce7 BK684.out; obtain ⟨hcz28_0, hcz28_1, hcz28_2, hcz28_3, hcz28_4, hcz28_5, hfz28_0, hfz28_1, hfz28_2, hfz28_3, hfz28_4, hfz28_5⟩ := zce6 BK685.out) | ((with_reducible refine gate_callee (f := 63) rfl ?_); refine goesL_ (some 26) rfl rfl Try.func63 zq3 rfl #[.int .i64 (wrap64 (x1_1 + a0_1)), .int .i64 a3_4, .int .i64 a3_5] rfl zq8 ?_; (with_reducible refine (glider_between.calls (wrap64 (x1_1 + a0_1)) a3_4 a3_5 true _ A10.out).mono ?_); rintro e w' ⟨rfl, ⟨nd, rfl⟩⟩; refine ⟨_, rfl, ?_⟩) | (go_at_call 72; (with_reducible refine (glider_inside.calls ((rd_T29 l2 x13_1).f0.f0) ((rd_T29 l2 x13_1).f0.f1) ((rd_T29 l2 x13_1).f1.f0) ((rd_T29 l2 x13_1).f1.f1) a3_0 a3_1 a3_2 a3_3 t689 _ A12.out).mono ?_); rintro e w29 ⟨rfl, hb⟩; have n0_ := zbb BK684 hb; have n1_ := zbb BK685 hb; have n2_ := Aside0.mk (blk_below (g := gb687) (o := .cells #[.int .i64 ((rd_T29 l2 x13_1).f0.f0), .int .i64 ((rd_T29 l2 x13_1).f0.f1), .int .i64 ((rd_T29 l2 x13_1).f1.f0), .int .i64 ((rd_T29 l2 x13_1).f1.f1)] 29 (0, 0)) (by (with_reducible repeat (first | refine blk_drewN ?_ _ | refine blk_drew ?_ | refine blk_alloc ?_ _)); refine blk_put (cs := #[.int .i64 ((rd_T29 l2 x13_1).f0.f0), .int .i64 ((rd_T29 l2 x13_1).f0.f1), .int .i64 ((rd_T29 l2 x13_1).f1.f0), .int .i64 0]) ?_ 3 _ rfl; (with_reducible repeat (first | refine blk_drewN ?_ _ | refine blk_drew ?_ | refine blk_alloc ?_ _)); refine blk_put (cs := #[.int .i64 ((rd_T29 l2 x13_1).f0.f0), .int .i64 ((rd_T29 l2 x13_1).f0.f1), .int .i64 0, .int .i64 0]) ?_ 2 _ rfl; (with_reducible repeat (first | refine blk_drewN ?_ _ | refine blk_drew ?_ | refine blk_alloc ?_ _)); refine blk_put (cs := #[.int .i64 ((rd_T29 l2 x13_1).f0.f0), .int .i64 0, .int .i64 0, .int .i64 0]) ?_ 1 _ rfl; (with_reducible repeat (first | refine blk_drewN ?_ _ | refine blk_drew ?_ | refine blk_alloc ?_ _)); refine blk_put (cs := #[.int .i64 0, .int .i64 0, .int .i64 0, .int .i64 0]) ?_ 0 _ rfl; (with_reducible repeat (first | refine blk_drewN ?_ _ | refine blk_drew ?_ | refine blk_alloc ?_ _)); exact BK687.out) hb); have n3_ := zbs HB hb; clear BK684; clear BK685; clear BK687; clear HB; have BK684 := n0_; have BK685 := n1_; have BK687 := n2_; have HB := n3_; clear n0_ n1_ n2_ n3_; (try clear hb); (try clear hb2); (try clear hk); (try clear hi)))
        go_ret
        exact ⟨zq2, zbz⟩
      ·replace c11 := Bool.eq_false_iff.mpr c11
       subst c11
       have H1 : (glider_fetchedAny.l0 k1 (wrap64 (x1_1 + a0_1)) l2 (l2.length : Int) (wrap64 (x13_1 + 1)) a0_0 a0_1 a0_2 a0_3 a0_4 a0_5 a0_6 a3_0 a3_1 a3_2 a3_3 a3_4 a3_5) = some r := by rw [if_neg (show ¬ (false = true) by decide)] at H; exact H
       clear H
       have H := H1
       clear H1
       have H' := Aside0.mk H
       clear H
       have p686 : 0 ≤ (x13_1 : Int) := of_decide_eq_true zq5
       have q686 : x13_1 < (l2.length : Int) := of_decide_eq_true zq5
       obtain ⟨ad686, e686, hx686_0, hx686_1, hx686_2, hx686_3⟩ := at_T29 HR2.out x13_1 p686 q686
       cases e686
       replace hx686_0 := (HB.out.cell (World.block_lt_of_cell? w _ hx686_0)).trans hx686_0
       replace hx686_1 := (HB.out.cell (World.block_lt_of_cell? w _ hx686_1)).trans hx686_1
       replace hx686_2 := (HB.out.cell (World.block_lt_of_cell? w _ hx686_2)).trans hx686_2
       replace hx686_3 := (HB.out.cell (World.block_lt_of_cell? w _ hx686_3)).trans hx686_3
       replace p686 := eq_true p686
       replace q686 := eq_true q686
       go_wp2_with (first | ((with_reducible refine gate_dst (N := 10) rfl ?_); refine box_event (by rfl) (N := 10) (by rfl) (cs := #[.int .i64 0, .int .i64 0, .int .i64 0, .int .i64 0]) (t := 29) zq1 ?_; intro gb687 hg w30 hbox hb; have BK687 := Aside0.mk (hbox); have GW687 := zgs HB hg; have GE687 := zgs HB hg; have NB684_687 := znp BK684 hg; have NB687_684 := znq BK684 hg; have NB685_687 := znp BK685 hg; have NB687_685 := znq BK685 hg; replace BK684 := zbb BK684 hb; replace BK685 := zbb BK685 hb; replace HB := zbs HB hb; clear hb hbox hg; have hnb31 := NB687_684.out; have hnc31 := NB684_687.out; have hnb32 := NB687_685.out; have hnc32 := NB685_687.out; obtain ⟨hcz33_0, hcz33_1, hcz33_2, hcz33_3, hfz33_0, hfz33_1, hfz33_2, hfz33_3⟩ := zce4 BK687.out; have hnb34 := NB684_685.out; have hnc34 := NB685_684.out; obtain ⟨hcz35_0, hcz35_1, hcz35_2, hcz35_3, hcz35_4, hcz35_5, hcz35_6, hfz35_0, hfz35_1, hfz35_2, hfz35_3, hfz35_4, hfz35_5, hfz35_6⟩ := zce7 BK684.out; obtain ⟨hcz36_0, hcz36_1, hcz36_2, hcz36_3, hcz36_4, hcz36_5, hfz36_0, hfz36_1, hfz36_2, hfz36_3, hfz36_4, hfz36_5⟩ := zce6 BK685.out) | ((with_reducible refine gate_callee (f := 63) rfl ?_); refine goesL_ (some 26) rfl rfl Try.func63 zq3 rfl #[.int .i64 (wrap64 (x1_1 + a0_1)), .int .i64 a3_4, .int .i64 a3_5] rfl zq8 ?_; (with_reducible refine (glider_between.calls (wrap64 (x1_1 + a0_1)) a3_4 a3_5 false _ A10.out).mono ?_); rintro e w' ⟨rfl, ⟨nd, rfl⟩⟩; refine ⟨_, rfl, ?_⟩))
       go_roundg k1
       case measure => have := HK1.out; omega
       case rel => exact ⟨(wrap64 (x1_1 + a0_1)), (wrap64 (x13_1 + 1)), zq4, zq4, H', ⟨zq6⟩, ⟨zbf⟩, ⟨zbf⟩, ⟨zbz⟩⟩
     ·rw [if_neg c9] at H
      exact absurd H (by simp)
    ·rw [if_neg c8] at H
     exact absurd H (by simp)
   ·rw [if_neg c7] at H
    have c7b0 : decide (x13_1 < (l2.length : Int)) = false := decide_eq_false c7
    clear c7
    obtain rfl := Option.some.inj H
    go_wp2
    go_ret
    exact ⟨zq2, zbz⟩

end Go.Proofs.Ythglkoddmpicdaa.Pr
end
