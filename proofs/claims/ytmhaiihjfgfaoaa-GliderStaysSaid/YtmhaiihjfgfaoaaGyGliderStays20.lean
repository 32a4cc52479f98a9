/- Part 20 of the proof of GliderStays: what the functions compute. No condition. -/
import Derived.Test.YtmhaiihjfgfaoaaGyGliderStays3
import Derived.Test.YtmhaiihjfgfaoaaGyGliderStays18
import Derived.Test.YtmhaiihjfgfaoaaGyGliderStays19
section
/- The hull reach, and which boxes are a proof, as the program reckons them. -/
namespace Go.Proofs.Ytmhaiihjfgfaoaa.Gl
open Go.RowKit Go.Shelf Go.Proofs.YtmhaiihjfgfaoaaW.PrintWords Go.Proofs.YtmhaiihjfgfaoaaW.PrintLast Go.Proofs.YtmhaiihjfgfaoaaW.PrintMore Go.Proofs.Ytmhaiihjfgfaoaa.Pr Go.Proofs.YtmhaiihjfgfaoaaW.Round
set_option linter.unusedVariables false
set_option linter.unusedSimpArgs false
attribute [local go_sem] max2_int min2_int max_two min_two max_four
attribute [local go_sem] Oper.semAt_some
/-- A trip that stays one while what was there before and its own block are as they are. -/
def TripPost2 (w0 : World) (s : Sea) (v : Veh) (E : Int) (w : World) (e : Ending) (w' : World) : Prop :=
 ∃ ptr, e = .returned (.tuple #[.pointer ptr, .int .i64 E]) ∧ Below w.heap.size w w' ∧ ((tripE s v = 0 ∧ ∃ g, ptr = some ⟨g, 0, none⟩ ∧ w.heap.size ≤ g ∧ TripAt w' g s v ∧ ∀ W', Below w0.heap.size w0 W' → W'.heap[g]? = w'.heap[g]? → TripAt W' g s v) ∨ (tripE s v ≠ 0 ∧ ptr = none))
set_option maxRecDepth 100000 in
set_option maxHeartbeats 4000000 in
theorem newTrip_any2 (s : Sea) (v : Veh) (A7 A8 : Option Addr) (c7 c8 : Nat) (w0 w : World) (hb0 : Below w0.heap.size w0 w) (h7 : s.shores.length ≤ c7) (hC7 : Kd.C Kd.bool w0 A7 s.shores.length s.shores) (h8 : s.currents.length ≤ c8) (hC8 : Kd.C k40 w0 A8 s.currents.length s.currents) :
  Calls Try.prog 113 #[.agg #[.int .i64 s.nx, .int .i64 s.ny, .int .i64 s.cell, .int .i64 s.slot, .int .i64 s.slots, .int .i64 s.layers, .int .i64 s.most, .slice A7 s.shores.length c7, .slice A8 s.currents.length c8], .agg #[.int .i64 v.speed, .int .i64 v.dive, .int .i64 v.use.f0, .int .i64 v.use.f1, .int .i64 v.drift.f0, .int .i64 v.drift.f1, .int .i64 v.reserve]] w (TripPost2 w0 s v (tripE s v) w) := by
 have hu25 := Try.underlying25
 have hu29 := Try.underlying29
 have hu110 := Try.underlying110
 have HE : Hid (tripE s v = if seaE s ≠ 0 then seaE s else vehE v) := Lib.hid rfl
 go_enter Try.func113, Try.ntmps113
 go_wp2_with fail
 have m2 : Blk ((w.alloc (.cells #[.int .i64 s.nx, .int .i64 s.ny, .int .i64 s.cell, .int .i64 s.slot, .int .i64 s.slots, .int .i64 s.layers, .int .i64 s.most, .slice A7 s.shores.length c7, .slice A8 s.currents.length c8] 25)).alloc (.cells #[.int .i64 v.speed, .int .i64 v.dive, .int .i64 v.use.f0, .int .i64 v.use.f1, .int .i64 v.drift.f0, .int .i64 v.drift.f1, .int .i64 v.reserve] 29)) (w.heap.size) #[.int .i64 s.nx, .int .i64 s.ny, .int .i64 s.cell, .int .i64 s.slot, .int .i64 s.slots, .int .i64 s.layers, .int .i64 s.most, .slice A7 s.shores.length c7, .slice A8 s.currents.length c8] 25 := (blk_alloc zq15 _)
 have m3 : Blk ((w.alloc (.cells #[.int .i64 s.nx, .int .i64 s.ny, .int .i64 s.cell, .int .i64 s.slot, .int .i64 s.slots, .int .i64 s.layers, .int .i64 s.most, .slice A7 s.shores.length c7, .slice A8 s.currents.length c8] 25)).alloc (.cells #[.int .i64 v.speed, .int .i64 v.dive, .int .i64 v.use.f0, .int .i64 v.use.f1, .int .i64 v.drift.f0, .int .i64 v.drift.f1, .int .i64 v.reserve] 29)) (w.heap.size + 1) #[.int .i64 v.speed, .int .i64 v.dive, .int .i64 v.use.f0, .int .i64 v.use.f1, .int .i64 v.drift.f0, .int .i64 v.drift.f1, .int .i64 v.reserve] 29 := zq37
 have mB : Below w.heap.size w ((w.alloc (.cells #[.int .i64 s.nx, .int .i64 s.ny, .int .i64 s.cell, .int .i64 s.slot, .int .i64 s.slots, .int .i64 s.layers, .int .i64 s.most, .slice A7 s.shores.length c7, .slice A8 s.currents.length c8] 25)).alloc (.cells #[.int .i64 v.speed, .int .i64 v.dive, .int .i64 v.use.f0, .int .i64 v.use.f1, .int .i64 v.drift.f0, .int .i64 v.drift.f1, .int .i64 v.reserve] 29)) := (below_alloc (below_alloc (Below.refl w.heap.size w) _) _)
 have hsz_ : w.heap.size ≤ w.heap.size := Nat.le_refl _
 generalize hW_ : ((w.alloc (.cells #[.int .i64 s.nx, .int .i64 s.ny, .int .i64 s.cell, .int .i64 s.slot, .int .i64 s.slots, .int .i64 s.layers, .int .i64 s.most, .slice A7 s.shores.length c7, .slice A8 s.currents.length c8] 25)).alloc (.cells #[.int .i64 v.speed, .int .i64 v.dive, .int .i64 v.use.f0, .int .i64 v.use.f1, .int .i64 v.drift.f0, .int .i64 v.drift.f1, .int .i64 v.reserve] 29)) = W1 at m2 m3 mB ⊢
 clear hW_
 generalize hg2 : w.heap.size = g2 at m2 m3 ⊢
 have hG2 : w.heap.size ≤ g2 := by omega
 generalize hg3 : g2 + 1 = g3 at m3 ⊢
 have hn_2_3 : g2 ≠ g3 := by omega
 have hn_3_2 : g3 ≠ g2 := hn_2_3.symm
 have hG3 : w.heap.size ≤ g3 := by omega
 clear hsz_
 try clear hg3
 try clear hg2
 have hs_W1 : w.heap.size ≤ W1.heap.size := mB.size
 have hcon := sea_any s A7 A8 c7 c8 W1 h7 (Kd.C_below (Kd.C_below hC7 hb0) mB) h8 (Kd.C_below (Kd.C_below hC8 hb0) mB)
 (with_reducible refine hcon.mono ?_)
 clear hcon
 rintro e W2 ⟨rfl, hb⟩
 replace m2 := blk_below m2 hb
 replace m3 := blk_below m3 hb
 replace mB := below_step mB hb
 clear hb
 have hs_W2 : w.heap.size ≤ W2.heap.size := mB.size
 rcases sea_two s with ⟨h1, _⟩ | h1
 case inr =>
  have HZ : Hid (tripE s v = 2) := Lib.hid (HE.out.trans (by rw [h1]; rfl))
  rw [h1]
  clear h1 HE
  go_wp2
  go_ret2
  exact ⟨none, zq16, mB, .inr ⟨by rw [HZ.out]; decide, rfl⟩⟩
 case inl =>
  have HE2 := Lib.hid (HE.out.trans (if_neg (by omega)))
  clear HE
  rw [h1]
  clear h1
  obtain ⟨c3_0, c3_1, c3_2, c3_3, c3_4, c3_5, c3_6⟩ := zcs7 m3
  go_wp2_with fail
  clear c3_0 c3_1 c3_2 c3_3 c3_4 c3_5 c3_6
  have hcon := veh_any v W2
  (with_reducible refine hcon.mono ?_)
  clear hcon
  rintro e W3 ⟨rfl, hb⟩
  replace m2 := blk_below m2 hb
  replace m3 := blk_below m3 hb
  replace mB := below_step mB hb
  clear hb
  have hs_W3 : w.heap.size ≤ W3.heap.size := mB.size
  rcases veh_two v with ⟨h1, _⟩ | h1
  case inr =>
   have HE := HE2
   have HZ : Hid (tripE s v = 2) := Lib.hid (HE2.out.trans h1)
   rw [h1]
   clear h1 HE
   go_wp2
   go_ret2
   exact ⟨none, zq16, mB, .inr ⟨by rw [HZ.out]; decide, rfl⟩⟩
  case inl =>
   have HZ := Lib.hid (HE2.out.trans h1)
   rw [h1]
   clear h1 HE2
   obtain ⟨c2_0, c2_1, c2_2, c2_3, c2_4, c2_5, c2_6, c2_7, c2_8⟩ := zcs9 m2
   obtain ⟨c3_0, c3_1, c3_2, c3_3, c3_4, c3_5, c3_6⟩ := zcs7 m3
   go_wp2
   go_ret2
   have hb2 := hb0.trans ((below_alloc mB (.cells #[.int .i64 s.nx, .int .i64 s.ny, .int .i64 s.cell, .int .i64 s.slot, .int .i64 s.slots, .int .i64 s.layers, .int .i64 s.most, .slice A7 s.shores.length c7, .slice A8 s.currents.length c8, .int .i64 v.speed, .int .i64 v.dive, .int .i64 v.use.f0, .int .i64 v.use.f1, .int .i64 v.drift.f0, .int .i64 v.drift.f1, .int .i64 v.reserve] 110)).mono hb0.size)
   exact ⟨_, zq16, below_alloc mB _, .inl ⟨HZ.out, W3.heap.size, rfl, mB.size, ⟨A7, c7, A8, c8, blk_new W3 (.cells #[.int .i64 s.nx, .int .i64 s.ny, .int .i64 s.cell, .int .i64 s.slot, .int .i64 s.slots, .int .i64 s.layers, .int .i64 s.most, .slice A7 s.shores.length c7, .slice A8 s.currents.length c8, .int .i64 v.speed, .int .i64 v.dive, .int .i64 v.use.f0, .int .i64 v.use.f1, .int .i64 v.drift.f0, .int .i64 v.drift.f1, .int .i64 v.reserve] 110), h7, Kd.C_below hC7 hb2, h8, Kd.C_below hC8 hb2⟩, fun W' hB hg => ⟨A7, c7, A8, c8, hg.trans (blk_new W3 (.cells #[.int .i64 s.nx, .int .i64 s.ny, .int .i64 s.cell, .int .i64 s.slot, .int .i64 s.slots, .int .i64 s.layers, .int .i64 s.most, .slice A7 s.shores.length c7, .slice A8 s.currents.length c8, .int .i64 v.speed, .int .i64 v.dive, .int .i64 v.use.f0, .int .i64 v.use.f1, .int .i64 v.drift.f0, .int .i64 v.drift.f1, .int .i64 v.reserve] 110)), h7, Kd.C_below hC7 hB, h8, Kd.C_below hC8 hB⟩⟩⟩
set_option maxRecDepth 100000 in
set_option maxHeartbeats 4000000 in
theorem begin_any2 (s : Sea) (v : Veh) (x : S31) (t : Int) (A7 A8 : Option Addr) (c7 c8 : Nat) (w0 w : World) (hb0 : Below w0.heap.size w0 w) (h7 : s.shores.length ≤ c7) (hC7 : Kd.C Kd.bool w0 A7 s.shores.length s.shores) (h8 : s.currents.length ≤ c8) (hC8 : Kd.C k40 w0 A8 s.currents.length s.currents) :
  Calls Try.prog 64 #[.agg #[.int .i64 s.nx, .int .i64 s.ny, .int .i64 s.cell, .int .i64 s.slot, .int .i64 s.slots, .int .i64 s.layers, .int .i64 s.most, .slice A7 s.shores.length c7, .slice A8 s.currents.length c8], .agg #[.int .i64 v.speed, .int .i64 v.dive, .int .i64 v.use.f0, .int .i64 v.use.f1, .int .i64 v.drift.f0, .int .i64 v.drift.f1, .int .i64 v.reserve], .agg #[.int .i64 x.f0.f0, .int .i64 x.f0.f1, .int .i64 x.f1.f0, .int .i64 x.f1.f1], .int .i64 t] w (TripPost2 w0 s v (beginE s v x t) w) := by
 have hu25 := Try.underlying25
 have hu29 := Try.underlying29
 have hu31 := Try.underlying31
 have HE : Hid (beginE s v x t = if tripE s v ≠ 0 then tripE s v else placeE x t) := Lib.hid rfl
 go_enter Try.func64, Try.ntmps64
 go_wp2_with fail
 have m4 : Blk (((w.alloc (.cells #[.int .i64 s.nx, .int .i64 s.ny, .int .i64 s.cell, .int .i64 s.slot, .int .i64 s.slots, .int .i64 s.layers, .int .i64 s.most, .slice A7 s.shores.length c7, .slice A8 s.currents.length c8] 25)).alloc (.cells #[.int .i64 v.speed, .int .i64 v.dive, .int .i64 v.use.f0, .int .i64 v.use.f1, .int .i64 v.drift.f0, .int .i64 v.drift.f1, .int .i64 v.reserve] 29)).alloc (.cells #[.int .i64 x.f0.f0, .int .i64 x.f0.f1, .int .i64 x.f1.f0, .int .i64 x.f1.f1] 31)) (w.heap.size) #[.int .i64 s.nx, .int .i64 s.ny, .int .i64 s.cell, .int .i64 s.slot, .int .i64 s.slots, .int .i64 s.layers, .int .i64 s.most, .slice A7 s.shores.length c7, .slice A8 s.currents.length c8] 25 := (blk_alloc (blk_alloc zq15 _) _)
 have m5 : Blk (((w.alloc (.cells #[.int .i64 s.nx, .int .i64 s.ny, .int .i64 s.cell, .int .i64 s.slot, .int .i64 s.slots, .int .i64 s.layers, .int .i64 s.most, .slice A7 s.shores.length c7, .slice A8 s.currents.length c8] 25)).alloc (.cells #[.int .i64 v.speed, .int .i64 v.dive, .int .i64 v.use.f0, .int .i64 v.use.f1, .int .i64 v.drift.f0, .int .i64 v.drift.f1, .int .i64 v.reserve] 29)).alloc (.cells #[.int .i64 x.f0.f0, .int .i64 x.f0.f1, .int .i64 x.f1.f0, .int .i64 x.f1.f1] 31)) (w.heap.size + 1) #[.int .i64 v.speed, .int .i64 v.dive, .int .i64 v.use.f0, .int .i64 v.use.f1, .int .i64 v.drift.f0, .int .i64 v.drift.f1, .int .i64 v.reserve] 29 := (blk_alloc zq37 _)
 have m6 : Blk (((w.alloc (.cells #[.int .i64 s.nx, .int .i64 s.ny, .int .i64 s.cell, .int .i64 s.slot, .int .i64 s.slots, .int .i64 s.layers, .int .i64 s.most, .slice A7 s.shores.length c7, .slice A8 s.currents.length c8] 25)).alloc (.cells #[.int .i64 v.speed, .int .i64 v.dive, .int .i64 v.use.f0, .int .i64 v.use.f1, .int .i64 v.drift.f0, .int .i64 v.drift.f1, .int .i64 v.reserve] 29)).alloc (.cells #[.int .i64 x.f0.f0, .int .i64 x.f0.f1, .int .i64 x.f1.f0, .int .i64 x.f1.f1] 31)) (w.heap.size + 1 + 1) #[.int .i64 x.f0.f0, .int .i64 x.f0.f1, .int .i64 x.f1.f0, .int .i64 x.f1.f1] 31 := zq38
 have mB : Below w.heap.size w (((w.alloc (.cells #[.int .i64 s.nx, .int .i64 s.ny, .int .i64 s.cell, .int .i64 s.slot, .int .i64 s.slots, .int .i64 s.layers, .int .i64 s.most, .slice A7 s.shores.length c7, .slice A8 s.currents.length c8] 25)).alloc (.cells #[.int .i64 v.speed, .int .i64 v.dive, .int .i64 v.use.f0, .int .i64 v.use.f1, .int .i64 v.drift.f0, .int .i64 v.drift.f1, .int .i64 v.reserve] 29)).alloc (.cells #[.int .i64 x.f0.f0, .int .i64 x.f0.f1, .int .i64 x.f1.f0, .int .i64 x.f1.f1] 31)) := (below_alloc (below_alloc (below_alloc (Below.refl w.heap.size w) _) _) _)
 have hsz_ : w.heap.size ≤ w.heap.size := Nat.le_refl _
 generalize hW_ : (((w.alloc (.cells #[.int .i64 s.nx, .int .i64 s.ny, .int .i64 s.cell, .int .i64 s.slot, .int .i64 s.slots, .int .i64 s.layers, .int .i64 s.most, .slice A7 s.shores.length c7, .slice A8 s.currents.length c8] 25)).alloc (.cells #[.int .i64 v.speed, .int .i64 v.dive, .int .i64 v.use.f0, .int .i64 v.use.f1, .int .i64 v.drift.f0, .int .i64 v.drift.f1, .int .i64 v.reserve] 29)).alloc (.cells #[.int .i64 x.f0.f0, .int .i64 x.f0.f1, .int .i64 x.f1.f0, .int .i64 x.f1.f1] 31)) = W1 at m4 m5 m6 mB ⊢
 clear hW_
 generalize hg4 : w.heap.size = g4 at m4 m5 m6 ⊢
 have hG4 : w.heap.size ≤ g4 := by omega
 generalize hg5 : g4 + 1 = g5 at m5 m6 ⊢
 have hn_4_5 : g4 ≠ g5 := by omega
 have hn_5_4 : g5 ≠ g4 := hn_4_5.symm
 have hG5 : w.heap.size ≤ g5 := by omega
 generalize hg6 : g5 + 1 = g6 at m6 ⊢
 have hn_4_6 : g4 ≠ g6 := by omega
 have hn_5_6 : g5 ≠ g6 := by omega
 have hn_6_4 : g6 ≠ g4 := hn_4_6.symm
 have hn_6_5 : g6 ≠ g5 := hn_5_6.symm
 have hG6 : w.heap.size ≤ g6 := by omega
 clear hsz_
 try clear hg6
 try clear hg5
 try clear hg4
 have hs_W1 : w.heap.size ≤ W1.heap.size := mB.size
 have hcon := newTrip_any2 s v A7 A8 c7 c8 w0 W1 (hb0.trans (mB.mono hb0.size)) h7 hC7 h8 hC8
 (with_reducible refine hcon.mono ?_)
 clear hcon
 rintro e W2 ⟨ptr, rfl, hb, ⟨h0, g, rfl, hg, hT, hTT⟩ | ⟨h0, rfl⟩⟩
 case inr =>
  have HZ := Lib.hid (HE.out.trans (if_pos h0))
  replace mB := below_step mB hb
  clear hb HE
  have h00 := Lib.hid h0
  generalize hE_ : tripE s v = E0 at *
  have hE := Lib.hid hE_
  clear hE_
  have hd : (E0 == 0) = false := beq_eq_false_iff_ne.2 h0
  have hd2 : (E0 != 0) = true := by rw [bne, hd]; rfl
  clear h0
  go_wp2
  go_ret2
  exact ⟨none, zq16, mB, .inr ⟨by rw [hE.out]; exact h00.out, rfl⟩⟩
 case inl =>
  have HZ := Lib.hid (HE.out.trans (if_neg (fun h => h h0)))
  clear HE
  have hg0 : w.heap.size ≤ g := Nat.le_trans (m := W1.heap.size) (by assumption) hg
  replace m4 := blk_below m4 hb
  replace m5 := blk_below m5 hb
  replace m6 := blk_below m6 hb
  replace mB := below_step mB hb
  clear hb
  have H0 := Lib.hid h0
  rw [h0]
  clear h0
  have hs_W2 : w.heap.size ≤ W2.heap.size := mB.size
  obtain ⟨c6_0, c6_1, c6_2, c6_3⟩ := zcs4 m6
  go_wp2_with fail
  clear c6_0 c6_1 c6_2 c6_3
  have hcon := place_any x t W2
  (with_reducible refine hcon.mono ?_)
  clear hcon
  rintro e W3 ⟨rfl, hb⟩
  have hgl : g < W2.heap.size := by obtain ⟨_, _, _, _, h_, _⟩ := hT; exact blk_lt h_
  have hTT2 : ∀ W', Below w0.heap.size w0 W' → W'.heap[g]? = W3.heap[g]? → TripAt W' g s v := fun W' h1 h2 => hTT W' h1 (h2.trans (hb.block g hgl))
  replace hT := hT.below hb
  have HTT := Lib.hid hTT2
  clear hTT hTT2
  replace m4 := blk_below m4 hb
  replace m5 := blk_below m5 hb
  replace m6 := blk_below m6 hb
  replace mB := below_step mB hb
  clear hb
  go_wp2
  go_ret2
  exact ⟨_, zq16, mB, .inl ⟨H0.out, g, rfl, hg0, hT, HTT.out⟩⟩
/-- What Reach returns. -/
def ReachX (s : Sea) (v : Veh) (x : S31) (t d : Int) : List S31 × Int := if beginE s v x t ≠ 0 then ([], beginE s v x t) else if d < 0 ∨ d > 64 then ([], 3) else hullsI s v d.toNat x t []
set_option maxRecDepth 100000 in
set_option maxHeartbeats 8000000 in
theorem Reach_any (s : Sea) (v : Veh) (x : S31) (t d : Int) (A7 A8 : Option Addr) (c7 c8 : Nat) (w : World) (h7 : s.shores.length ≤ c7) (hC7 : Kd.C Kd.bool w A7 s.shores.length s.shores) (h8 : s.currents.length ≤ c8) (hC8 : Kd.C k40 w A8 s.currents.length s.currents) :
  Calls Try.prog 50 #[.agg #[.int .i64 s.nx, .int .i64 s.ny, .int .i64 s.cell, .int .i64 s.slot, .int .i64 s.slots, .int .i64 s.layers, .int .i64 s.most, .slice A7 s.shores.length c7, .slice A8 s.currents.length c8], .agg #[.int .i64 v.speed, .int .i64 v.dive, .int .i64 v.use.f0, .int .i64 v.use.f1, .int .i64 v.drift.f0, .int .i64 v.drift.f1, .int .i64 v.reserve], .agg #[.int .i64 x.f0.f0, .int .i64 x.f0.f1, .int .i64 x.f1.f0, .int .i64 x.f1.f1], .int .i64 t, .int .i64 d] w (HullPost (ReachX s v x t d) w) := by
 have hu25 := Try.underlying25
 have hu29 := Try.underlying29
 have hu31 := Try.underlying31
 have hu27 := Try.underlying27
 have HX : Hid (ReachX s v x t d = if beginE s v x t ≠ 0 then ([], beginE s v x t) else if d < 0 ∨ d > 64 then ([], 3) else hullsI s v d.toNat x t []) := Lib.hid rfl
 go_enter Try.func50, Try.ntmps50
 go_wp2_with fail
 have m5 : Blk (((w.alloc (.cells #[.int .i64 s.nx, .int .i64 s.ny, .int .i64 s.cell, .int .i64 s.slot, .int .i64 s.slots, .int .i64 s.layers, .int .i64 s.most, .slice A7 s.shores.length c7, .slice A8 s.currents.length c8] 25)).alloc (.cells #[.int .i64 v.speed, .int .i64 v.dive, .int .i64 v.use.f0, .int .i64 v.use.f1, .int .i64 v.drift.f0, .int .i64 v.drift.f1, .int .i64 v.reserve] 29)).alloc (.cells #[.int .i64 x.f0.f0, .int .i64 x.f0.f1, .int .i64 x.f1.f0, .int .i64 x.f1.f1] 31)) (w.heap.size) #[.int .i64 s.nx, .int .i64 s.ny, .int .i64 s.cell, .int .i64 s.slot, .int .i64 s.slots, .int .i64 s.layers, .int .i64 s.most, .slice A7 s.shores.length c7, .slice A8 s.currents.length c8] 25 := (blk_alloc (blk_alloc zq15 _) _)
 have m6 : Blk (((w.alloc (.cells #[.int .i64 s.nx, .int .i64 s.ny, .int .i64 s.cell, .int .i64 s.slot, .int .i64 s.slots, .int .i64 s.layers, .int .i64 s.most, .slice A7 s.shores.length c7, .slice A8 s.currents.length c8] 25)).alloc (.cells #[.int .i64 v.speed, .int .i64 v.dive, .int .i64 v.use.f0, .int .i64 v.use.f1, .int .i64 v.drift.f0, .int .i64 v.drift.f1, .int .i64 v.reserve] 29)).alloc (.cells #[.int .i64 x.f0.f0, .int .i64 x.f0.f1, .int .i64 x.f1.f0, .int .i64 x.f1.f1] 31)) (w.heap.size + 1) #[.int .i64 v.speed, .int .i64 v.dive, .int .i64 v.use.f0, .int .i64 v.use.f1, .int .i64 v.drift.f0, .int .i64 v.drift.f1, .int .i64 v.reserve] 29 := (blk_alloc zq37 _)
 have m7 : Blk (((w.alloc (.cells #[.int .i64 s.nx, .int .i64 s.ny, .int .i64 s.cell, .int .i64 s.slot, .int .i64 s.slots, .int .i64 s.layers, .int .i64 s.most, .slice A7 s.shores.length c7, .slice A8 s.currents.length c8] 25)).alloc (.cells #[.int .i64 v.speed, .int .i64 v.dive, .int .i64 v.use.f0, .int .i64 v.use.f1, .int .i64 v.drift.f0, .int .i64 v.drift.f1, .int .i64 v.reserve] 29)).alloc (.cells #[.int .i64 x.f0.f0, .int .i64 x.f0.f1, .int .i64 x.f1.f0, .int .i64 x.f1.f1] 31)) (w.heap.size + 1 + 1) #[.int .i64 x.f0.f0, .int .i64 x.f0.f1, .int .i64 x.f1.f0, .int .i64 x.f1.f1] 31 := zq38
 have mB : Below w.heap.size w (((w.alloc (.cells #[.int .i64 s.nx, .int .i64 s.ny, .int .i64 s.cell, .int .i64 s.slot, .int .i64 s.slots, .int .i64 s.layers, .int .i64 s.most, .slice A7 s.shores.length c7, .slice A8 s.currents.length c8] 25)).alloc (.cells #[.int .i64 v.speed, .int .i64 v.dive, .int .i64 v.use.f0, .int .i64 v.use.f1, .int .i64 v.drift.f0, .int .i64 v.drift.f1, .int .i64 v.reserve] 29)).alloc (.cells #[.int .i64 x.f0.f0, .int .i64 x.f0.f1, .int .i64 x.f1.f0, .int .i64 x.f1.f1] 31)) := (below_alloc (below_alloc (below_alloc (Below.refl w.heap.size w) _) _) _)
 have hsz_ : w.heap.size ≤ w.heap.size := Nat.le_refl _
 generalize hW_ : (((w.alloc (.cells #[.int .i64 s.nx, .int .i64 s.ny, .int .i64 s.cell, .int .i64 s.slot, .int .i64 s.slots, .int .i64 s.layers, .int .i64 s.most, .slice A7 s.shores.length c7, .slice A8 s.currents.length c8] 25)).alloc (.cells #[.int .i64 v.speed, .int .i64 v.dive, .int .i64 v.use.f0, .int .i64 v.use.f1, .int .i64 v.drift.f0, .int .i64 v.drift.f1, .int .i64 v.reserve] 29)).alloc (.cells #[.int .i64 x.f0.f0, .int .i64 x.f0.f1, .int .i64 x.f1.f0, .int .i64 x.f1.f1] 31)) = W1 at m5 m6 m7 mB ⊢
 clear hW_
 generalize hg5 : w.heap.size = g5 at m5 m6 m7 ⊢
 have hG5 : w.heap.size ≤ g5 := by omega
 generalize hg6 : g5 + 1 = g6 at m6 m7 ⊢
 have hn_5_6 : g5 ≠ g6 := by omega
 have hn_6_5 : g6 ≠ g5 := hn_5_6.symm
 have hG6 : w.heap.size ≤ g6 := by omega
 generalize hg7 : g6 + 1 = g7 at m7 ⊢
 have hn_5_7 : g5 ≠ g7 := by omega
 have hn_6_7 : g6 ≠ g7 := by omega
 have hn_7_5 : g7 ≠ g5 := hn_5_7.symm
 have hn_7_6 : g7 ≠ g6 := hn_6_7.symm
 have hG7 : w.heap.size ≤ g7 := by omega
 clear hsz_
 try clear hg7
 try clear hg6
 try clear hg5
 have hs_W1 : w.heap.size ≤ W1.heap.size := mB.size
 have hbg : beginE s v x t = if tripE s v ≠ 0 then tripE s v else placeE x t := rfl
 have HBG := Lib.hid hbg
 clear hbg
 obtain ⟨c5_0, c5_1, c5_2, c5_3, c5_4, c5_5, c5_6, c5_7, c5_8⟩ := zcs9 m5
 obtain ⟨c6_0, c6_1, c6_2, c6_3, c6_4, c6_5, c6_6⟩ := zcs7 m6
 obtain ⟨c7_0, c7_1, c7_2, c7_3⟩ := zcs4 m7
 go_wp2_with fail
 clear c5_0 c5_1 c5_2 c5_3 c5_4 c5_5 c5_6 c5_7 c5_8 c6_0 c6_1 c6_2 c6_3 c6_4 c6_5 c6_6 c7_0 c7_1 c7_2 c7_3
 have hcon := begin_any s v x t A7 A8 c7 c8 W1 h7 (Kd.C_below hC7 mB) h8 (Kd.C_below hC8 mB)
 (with_reducible refine hcon.mono ?_)
 clear hcon
 rintro e W2 ⟨ptr, rfl, hb, hpt⟩
 replace m5 := blk_below m5 hb
 replace m6 := blk_below m6 hb
 replace m7 := blk_below m7 hb
 replace mB := below_step mB hb
 clear hb
 have hs_W2 : w.heap.size ≤ W2.heap.size := mB.size
 generalize hE_ : beginE s v x t = E0 at *
 have HE0 := Lib.hid hE_
 clear hE_
 by_cases h0 : E0 = 0
 case neg =>
  have HZ := Lib.hid (HX.out.trans (if_pos h0))
  have hd1 : (E0 == 0) = false := beq_eq_false_iff_ne.2 h0
  have hd2 : (E0 != 0) = true := by rw [bne, hd1]; rfl
  clear h0 hpt HX
  go_wp2
  go_ret2
  exact ⟨_, zq16, zq44, mB⟩
 case pos =>
  have HX2 := Lib.hid (HX.out.trans (if_neg (fun h => h h0)))
  clear HX
  have hb0 := HBG.out.symm.trans h0
  obtain ⟨ht0, hp0⟩ := ite_ne_zero hb0
  obtain ⟨hbx, htt0, htt1⟩ := place_ok hp0
  obtain ⟨hSV, hVN⟩ := tripE_ok ht0
  rcases hpt with ⟨_, g, rfl, hg, hT⟩ | ⟨hbad, _⟩
  case inr => exact absurd ht0 hbad
  case inl =>
   subst h0
   clear hb0 ht0 hp0 HBG
   by_cases hd : d < 0 ∨ d > 64
   case pos =>
    have HZ := Lib.hid (HX2.out.trans (if_pos hd))
    clear HX2
    by_cases hq : d < 0
    case pos =>
     clear hd
     go_wp2
     go_ret2
     exact ⟨_, zq16, zq44, mB⟩
    case neg =>
     have hq2 : d > 64 := by omega
     clear hd
     go_wp2
     go_ret2
     exact ⟨_, zq16, zq44, mB⟩
   case neg =>
    have HX3 := Lib.hid (HX2.out.trans (if_neg hd))
    clear HX2
    have hq : ¬ d < 0 := by omega
    have hq2 : ¬ d > 64 := by omega
    clear hd
    obtain ⟨m, rfl⟩ : ∃ m : Nat, d = m := ⟨d.toNat, by omega⟩
    skip
    obtain ⟨c7_0, c7_1, c7_2, c7_3⟩ := zcs4 m7
    go_wp2_with fail
    clear c7_0 c7_1 c7_2 c7_3
    skip
    have hcon := hulls_any g s v x t m W2 hT hSV hVN hbx htt0 htt1 (by omega)
    rw [Int.toNat_natCast] at HX3
    (with_reducible refine hcon.mono ?_)
    clear hcon
    rintro e W5 ⟨v0_, rfl, HR, hb⟩
    generalize hullsI s v m x t [] = R at *
    go_wp2
    go_ret2
    exact ⟨_, by rw [HX3.out]; rfl, by rw [HX3.out]; exact Kd.R_lower HR mB.size, below_step mB hb⟩
end Go.Proofs.Ytmhaiihjfgfaoaa.Gl
end
