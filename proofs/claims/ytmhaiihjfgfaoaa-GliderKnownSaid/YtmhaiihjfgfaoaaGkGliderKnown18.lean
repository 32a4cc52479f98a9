/- Part 18 of the proof of GliderKnown: what the functions compute. No condition. -/
import Derived.Maps.AppendAt
import Derived.Lib.SliceRun
import Derived.Lib.Walk
import Derived.WalkMore
import Derived.Test.YtmhaiihjfgfaoaaGkGliderKnown3
import Derived.Test.YtmhaiihjfgfaoaaGkGliderKnown16
import Derived.Test.YtmhaiihjfgfaoaaGkGliderKnown17
import Derived.Test.YtmhaiihjfgfaoaaGkGliderKnown14
import Derived.Test.YtmhaiihjfgfaoaaGkGliderKnown6
import Derived.Test.YtmhaiihjfgfaoaaGkGliderKnown11
import Derived.Test.YtmhaiihjfgfaoaaGkGliderKnown15
set_option linter.unusedVariables false
set_option linter.unusedSimpArgs false
section
/- The hull reach, and which boxes are a proof, as the program reckons them. -/
namespace Go.Proofs.Ytmhaiihjfgfaoaa.Gl
open Go.RowKit Go.Shelf Go.Proofs.YtmhaiihjfgfaoaaW.PrintWords Go.Proofs.YtmhaiihjfgfaoaaW.PrintLast Go.Proofs.YtmhaiihjfgfaoaaW.PrintMore Go.Proofs.Ytmhaiihjfgfaoaa.Pr Go.Proofs.YtmhaiihjfgfaoaaW.Round
set_option linter.unusedVariables false
set_option linter.unusedSimpArgs false
attribute [local go_sem] max2_int min2_int max_two min_two max_four
attribute [local go_sem] Oper.semAt_some
/-- A trip that stays one while what was there before and its own block are as they are. -/
def TripPost2 (w0 : World) (s : Sea) (v : Veh) (E : Int) (w : World) (e : Ending) (w' : World) : Prop :=
 ∃ ptr, e = .returned (.tuple #[.pointer ptr, .int .i64 E]) ∧ Below w.heap.size w w' ∧ ((tripE s v = 0 ∧ ∃ g, ptr = some ⟨g, 0, none⟩ ∧ w.heap.size ≤ g ∧ TripAt w' g s v ∧ ∀ W', Below w0.heap.size w0 W' → W'.heap[g]? = w'.heap[g]? → TripAt W' g s v) ∨ (tripE s v ≠ 0 ∧ ptr = none))
set_option maxRecDepth 100000 in
set_option maxHeartbeats 4000000 in
theorem newTrip_any2 (s : Sea) (v : Veh) (A7 A8 : Option Addr) (c7 c8 : Nat) (w0 w : World) (hb0 : Below w0.heap.size w0 w) (h7 : s.shores.length ≤ c7) (hC7 : Kd.C Kd.bool w0 A7 s.shores.length s.shores) (h8 : s.currents.length ≤ c8) (hC8 : Kd.C k40 w0 A8 s.currents.length s.currents) :
  Calls Try.prog 113 #[.agg #[.int .i64 s.nx, .int .i64 s.ny, .int .i64 s.cell, .int .i64 s.slot, .int .i64 s.slots, .int .i64 s.layers, .int .i64 s.most, .slice A7 s.shores.length c7, .slice A8 s.currents.length c8], .agg #[.int .i64 v.speed, .int .i64 v.dive, .int .i64 v.use.f0, .int .i64 v.use.f1, .int .i64 v.drift.f0, .int .i64 v.drift.f1, .int .i64 v.reserve]] w (TripPost2 w0 s v (tripE s v) w) := by
 have hu25 := Try.underlying25
 have hu29 := Try.underlying29
 have hu110 := Try.underlying110
 have HE : Hid (tripE s v = if seaE s ≠ 0 then seaE s else vehE v) := Lib.hid rfl
 go_enter Try.func113, Try.ntmps113
 go_wp2_with fail
 have m2 : Blk ((w.alloc (.cells #[.int .i64 s.nx, .int .i64 s.ny, .int .i64 s.cell, .int .i64 s.slot, .int .i64 s.slots, .int .i64 s.layers, .int .i64 s.most, .slice A7 s.shores.length c7, .slice A8 s.currents.length c8] 25)).alloc (.cells #[.int .i64 v.speed, .int .i64 v.dive, .int .i64 v.use.f0, .int .i64 v.use.f1, .int .i64 v.drift.f0, .int .i64 v.drift.f1, .int .i64 v.reserve] 29)) (w.heap.size) #[.int .i64 s.nx, .int .i64 s.ny, .int .i64 s.cell, .int .i64 s.slot, .int .i64 s.slots, .int .i64 s.layers, .int .i64 s.most, .slice A7 s.shores.length c7, .slice A8 s.currents.length c8] 25 := (blk_alloc zq13 _)
 have m3 : Blk ((w.alloc (.cells #[.int .i64 s.nx, .int .i64 s.ny, .int .i64 s.cell, .int .i64 s.slot, .int .i64 s.slots, .int .i64 s.layers, .int .i64 s.most, .slice A7 s.shores.length c7, .slice A8 s.currents.length c8] 25)).alloc (.cells #[.int .i64 v.speed, .int .i64 v.dive, .int .i64 v.use.f0, .int .i64 v.use.f1, .int .i64 v.drift.f0, .int .i64 v.drift.f1, .int .i64 v.reserve] 29)) (w.heap.size + 1) #[.int .i64 v.speed, .int .i64 v.dive, .int .i64 v.use.f0, .int .i64 v.use.f1, .int .i64 v.drift.f0, .int .i64 v.drift.f1, .int .i64 v.reserve] 29 := zq35
 have mB : Below w.heap.size w ((w.alloc (.cells #[.int .i64 s.nx, .int .i64 s.ny, .int .i64 s.cell, .int .i64 s.slot, .int .i64 s.slots, .int .i64 s.layers, .int .i64 s.most, .slice A7 s.shores.length c7, .slice A8 s.currents.length c8] 25)).alloc (.cells #[.int .i64 v.speed, .int .i64 v.dive, .int .i64 v.use.f0, .int .i64 v.use.f1, .int .i64 v.drift.f0, .int .i64 v.drift.f1, .int .i64 v.reserve] 29)) := (below_alloc (below_alloc (Below.refl w.heap.size w) _) _)
 have hsz_ : w.heap.size ≤ w.heap.size := Nat.le_refl _
 generalize hW_ : ((w.alloc (.cells #[.int .i64 s.nx, .int .i64 s.ny, .int .i64 s.cell, .int .i64 s.slot, .int .i64 s.slots, .int .i64 s.layers, .int .i64 s.most, .slice A7 s.shores.length c7, .slice A8 s.currents.length c8] 25)).alloc (.cells #[.int .i64 v.speed, .int .i64 v.dive, .int .i64 v.use.f0, .int .i64 v.use.f1, .int .i64 v.drift.f0, .int .i64 v.drift.f1, .int .i64 v.reserve] 29)) = W1 at m2 m3 mB ⊢
 clear hW_
 generalize hg2 : w.heap.size = g2 at m2 m3 ⊢
 have hG2 : w.heap.size ≤ g2 := by omega
 generalize hg3 : g2 + 1 = g3 at m3 ⊢
 have hn_2_3 : g2 ≠ g3 := by omega
 have hn_3_2 : g3 ≠ g2 := hn_2_3.symm
 have hG3 : w.heap.size ≤ g3 := by omega
 clear hsz_
 try clear hg3
 try clear hg2
 have hs_W1 : w.heap.size ≤ W1.heap.size := mB.size
 have hcon := sea_any s A7 A8 c7 c8 W1 h7 (Kd.C_below (Kd.C_below hC7 hb0) mB) h8 (Kd.C_below (Kd.C_below hC8 hb0) mB)
 (with_reducible refine hcon.mono ?_)
 clear hcon
 rintro e W2 ⟨rfl, hb⟩
 replace m2 := blk_below m2 hb
 replace m3 := blk_below m3 hb
 replace mB := below_step mB hb
 clear hb
 have hs_W2 : w.heap.size ≤ W2.heap.size := mB.size
 rcases sea_two s with ⟨h1, _⟩ | h1
 case inr =>
  have HZ : Hid (tripE s v = 2) := Lib.hid (HE.out.trans (by rw [h1]; rfl))
  rw [h1]
  clear h1 HE
  go_wp2
  go_ret2
  exact ⟨none, zq14, mB, .inr ⟨by rw [HZ.out]; decide, rfl⟩⟩
 case inl =>
  have HE2 := Lib.hid (HE.out.trans (if_neg (by omega)))
  clear HE
  rw [h1]
  clear h1
  obtain ⟨c3_0, c3_1, c3_2, c3_3, c3_4, c3_5, c3_6⟩ := zcs7 m3
  go_wp2_with fail
  clear c3_0 c3_1 c3_2 c3_3 c3_4 c3_5 c3_6
  have hcon := veh_any v W2
  (with_reducible refine hcon.mono ?_)
  clear hcon
  rintro e W3 ⟨rfl, hb⟩
  replace m2 := blk_below m2 hb
  replace m3 := blk_below m3 hb
  replace mB := below_step mB hb
  clear hb
  have hs_W3 : w.heap.size ≤ W3.heap.size := mB.size
  rcases veh_two v with ⟨h1, _⟩ | h1
  case inr =>
   have HE := HE2
   have HZ : Hid (tripE s v = 2) := Lib.hid (HE2.out.trans h1)
   rw [h1]
   clear h1 HE
   go_wp2
   go_ret2
   exact ⟨none, zq14, mB, .inr ⟨by rw [HZ.out]; decide, rfl⟩⟩
  case inl =>
   have HZ := Lib.hid (HE2.out.trans h1)
   rw [h1]
   clear h1 HE2
   obtain ⟨c2_0, c2_1, c2_2, c2_3, c2_4, c2_5, c2_6, c2_7, c2_8⟩ := zcs9 m2
   obtain ⟨c3_0, c3_1, c3_2, c3_3, c3_4, c3_5, c3_6⟩ := zcs7 m3
   go_wp2
   go_ret2
   have hb2 := hb0.trans ((below_alloc mB (.cells #[.int .i64 s.nx, .int .i64 s.ny, .int .i64 s.cell, .int .i64 s.slot, .int .i64 s.slots, .int .i64 s.layers, .int .i64 s.most, .slice A7 s.shores.length c7, .slice A8 s.currents.length c8, .int .i64 v.speed, .int .i64 v.dive, .int .i64 v.use.f0, .int .i64 v.use.f1, .int .i64 v.drift.f0, .int .i64 v.drift.f1, .int .i64 v.reserve] 110)).mono hb0.size)
   exact ⟨_, zq14, below_alloc mB _, .inl ⟨HZ.out, W3.heap.size, rfl, mB.size, ⟨A7, c7, A8, c8, blk_new W3 (.cells #[.int .i64 s.nx, .int .i64 s.ny, .int .i64 s.cell, .int .i64 s.slot, .int .i64 s.slots, .int .i64 s.layers, .int .i64 s.most, .slice A7 s.shores.length c7, .slice A8 s.currents.length c8, .int .i64 v.speed, .int .i64 v.dive, .int .i64 v.use.f0, .int .i64 v.use.f1, .int .i64 v.drift.f0, .int .i64 v.drift.f1, .int .i64 v.reserve] 110), h7, Kd.C_below hC7 hb2, h8, Kd.C_below hC8 hb2⟩, fun W' hB hg => ⟨A7, c7, A8, c8, hg.trans (blk_new W3 (.cells #[.int .i64 s.nx, .int .i64 s.ny, .int .i64 s.cell, .int .i64 s.slot, .int .i64 s.slots, .int .i64 s.layers, .int .i64 s.most, .slice A7 s.shores.length c7, .slice A8 s.currents.length c8, .int .i64 v.speed, .int .i64 v.dive, .int .i64 v.use.f0, .int .i64 v.use.f1, .int .i64 v.drift.f0, .int .i64 v.drift.f1, .int .i64 v.reserve] 110)), h7, Kd.C_below hC7 hB, h8, Kd.C_below hC8 hB⟩⟩⟩
set_option maxRecDepth 100000 in
set_option maxHeartbeats 4000000 in
theorem begin_any2 (s : Sea) (v : Veh) (x : S31) (t : Int) (A7 A8 : Option Addr) (c7 c8 : Nat) (w0 w : World) (hb0 : Below w0.heap.size w0 w) (h7 : s.shores.length ≤ c7) (hC7 : Kd.C Kd.bool w0 A7 s.shores.length s.shores) (h8 : s.currents.length ≤ c8) (hC8 : Kd.C k40 w0 A8 s.currents.length s.currents) :
  Calls Try.prog 64 #[.agg #[.int .i64 s.nx, .int .i64 s.ny, .int .i64 s.cell, .int .i64 s.slot, .int .i64 s.slots, .int .i64 s.layers, .int .i64 s.most, .slice A7 s.shores.length c7, .slice A8 s.currents.length c8], .agg #[.int .i64 v.speed, .int .i64 v.dive, .int .i64 v.use.f0, .int .i64 v.use.f1, .int .i64 v.drift.f0, .int .i64 v.drift.f1, .int .i64 v.reserve], .agg #[.int .i64 x.f0.f0, .int .i64 x.f0.f1, .int .i64 x.f1.f0, .int .i64 x.f1.f1], .int .i64 t] w (TripPost2 w0 s v (beginE s v x t) w) := by
 have hu25 := Try.underlying25
 have hu29 := Try.underlying29
 have hu31 := Try.underlying31
 have HE : Hid (beginE s v x t = if tripE s v ≠ 0 then tripE s v else placeE x t) := Lib.hid rfl
 go_enter Try.func64, Try.ntmps64
 go_wp2_with fail
 have m4 : Blk (((w.alloc (.cells #[.int .i64 s.nx, .int .i64 s.ny, .int .i64 s.cell, .int .i64 s.slot, .int .i64 s.slots, .int .i64 s.layers, .int .i64 s.most, .slice A7 s.shores.length c7, .slice A8 s.currents.length c8] 25)).alloc (.cells #[.int .i64 v.speed, .int .i64 v.dive, .int .i64 v.use.f0, .int .i64 v.use.f1, .int .i64 v.drift.f0, .int .i64 v.drift.f1, .int .i64 v.reserve] 29)).alloc (.cells #[.int .i64 x.f0.f0, .int .i64 x.f0.f1, .int .i64 x.f1.f0, .int .i64 x.f1.f1] 31)) (w.heap.size) #[.int .i64 s.nx, .int .i64 s.ny, .int .i64 s.cell, .int .i64 s.slot, .int .i64 s.slots, .int .i64 s.layers, .int .i64 s.most, .slice A7 s.shores.length c7, .slice A8 s.currents.length c8] 25 := (blk_alloc (blk_alloc zq13 _) _)
 have m5 : Blk (((w.alloc (.cells #[.int .i64 s.nx, .int .i64 s.ny, .int .i64 s.cell, .int .i64 s.slot, .int .i64 s.slots, .int .i64 s.layers, .int .i64 s.most, .slice A7 s.shores.length c7, .slice A8 s.currents.length c8] 25)).alloc (.cells #[.int .i64 v.speed, .int .i64 v.dive, .int .i64 v.use.f0, .int .i64 v.use.f1, .int .i64 v.drift.f0, .int .i64 v.drift.f1, .int .i64 v.reserve] 29)).alloc (.cells #[.int .i64 x.f0.f0, .int .i64 x.f0.f1, .int .i64 x.f1.f0, .int .i64 x.f1.f1] 31)) (w.heap.size + 1) #[.int .i64 v.speed, .int .i64 v.dive, .int .i64 v.use.f0, .int .i64 v.use.f1, .int .i64 v.drift.f0, .int .i64 v.drift.f1, .int .i64 v.reserve] 29 := (blk_alloc zq35 _)
 have m6 : Blk (((w.alloc (.cells #[.int .i64 s.nx, .int .i64 s.ny, .int .i64 s.cell, .int .i64 s.slot, .int .i64 s.slots, .int .i64 s.layers, .int .i64 s.most, .slice A7 s.shores.length c7, .slice A8 s.currents.length c8] 25)).alloc (.cells #[.int .i64 v.speed, .int .i64 v.dive, .int .i64 v.use.f0, .int .i64 v.use.f1, .int .i64 v.drift.f0, .int .i64 v.drift.f1, .int .i64 v.reserve] 29)).alloc (.cells #[.int .i64 x.f0.f0, .int .i64 x.f0.f1, .int .i64 x.f1.f0, .int .i64 x.f1.f1] 31)) (w.heap.size + 1 + 1) #[.int .i64 x.f0.f0, .int .i64 x.f0.f1, .int .i64 x.f1.f0, .int .i64 x.f1.f1] 31 := zq36
 have mB : Below w.heap.size w (((w.alloc (.cells #[.int .i64 s.nx, .int .i64 s.ny, .int .i64 s.cell, .int .i64 s.slot, .int .i64 s.slots, .int .i64 s.layers, .int .i64 s.most, .slice A7 s.shores.length c7, .slice A8 s.currents.length c8] 25)).alloc (.cells #[.int .i64 v.speed, .int .i64 v.dive, .int .i64 v.use.f0, .int .i64 v.use.f1, .int .i64 v.drift.f0, .int .i64 v.drift.f1, .int .i64 v.reserve] 29)).alloc (.cells #[.int .i64 x.f0.f0, .int .i64 x.f0.f1, .int .i64 x.f1.f0, .int .i64 x.f1.f1] 31)) := (below_alloc (below_alloc (below_alloc (Below.refl w.heap.size w) _) _) _)
 have hsz_ : w.heap.size ≤ w.heap.size := Nat.le_refl _
 generalize hW_ : (((w.alloc (.cells #[.int .i64 s.nx, .int .i64 s.ny, .int .i64 s.cell, .int .i64 s.slot, .int .i64 s.slots, .int .i64 s.layers, .int .i64 s.most, .slice A7 s.shores.length c7, .slice A8 s.currents.length c8] 25)).alloc (.cells #[.int .i64 v.speed, .int .i64 v.dive, .int .i64 v.use.f0, .int .i64 v.use.f1, .int .i64 v.drift.f0, .int .i64 v.drift.f1, .int .i64 v.reserve] 29)).alloc (.cells #[.int .i64 x.f0.f0, .int .i64 x.f0.f1, .int .i64 x.f1.f0, .int .i64 x.f1.f1] 31)) = W1 at m4 m5 m6 mB ⊢
 clear hW_
 generalize hg4 : w.heap.size = g4 at m4 m5 m6 ⊢
 have hG4 : w.heap.size ≤ g4 := by omega
 generalize hg5 : g4 + 1 = g5 at m5 m6 ⊢
 have hn_4_5 : g4 ≠ g5 := by omega
 have hn_5_4 : g5 ≠ g4 := hn_4_5.symm
 have hG5 : w.heap.size ≤ g5 := by omega
 generalize hg6 : g5 + 1 = g6 at m6 ⊢
 have hn_4_6 : g4 ≠ g6 := by omega
 have hn_5_6 : g5 ≠ g6 := by omega
 have hn_6_4 : g6 ≠ g4 := hn_4_6.symm
 have hn_6_5 : g6 ≠ g5 := hn_5_6.symm
 have hG6 : w.heap.size ≤ g6 := by omega
 clear hsz_
 try clear hg6
 try clear hg5
 try clear hg4
 have hs_W1 : w.heap.size ≤ W1.heap.size := mB.size
 have hcon := newTrip_any2 s v A7 A8 c7 c8 w0 W1 (hb0.trans (mB.mono hb0.size)) h7 hC7 h8 hC8
 (with_reducible refine hcon.mono ?_)
 clear hcon
 rintro e W2 ⟨ptr, rfl, hb, ⟨h0, g, rfl, hg, hT, hTT⟩ | ⟨h0, rfl⟩⟩
 case inr =>
  have HZ := Lib.hid (HE.out.trans (if_pos h0))
  replace mB := below_step mB hb
  clear hb HE
  have h00 := Lib.hid h0
  generalize hE_ : tripE s v = E0 at *
  have hE := Lib.hid hE_
  clear hE_
  have hd : (E0 == 0) = false := beq_eq_false_iff_ne.2 h0
  have hd2 : (E0 != 0) = true := by rw [bne, hd]; rfl
  clear h0
  go_wp2
  go_ret2
  exact ⟨none, zq14, mB, .inr ⟨by rw [hE.out]; exact h00.out, rfl⟩⟩
 case inl =>
  have HZ := Lib.hid (HE.out.trans (if_neg (fun h => h h0)))
  clear HE
  have hg0 : w.heap.size ≤ g := Nat.le_trans (m := W1.heap.size) (by assumption) hg
  replace m4 := blk_below m4 hb
  replace m5 := blk_below m5 hb
  replace m6 := blk_below m6 hb
  replace mB := below_step mB hb
  clear hb
  have H0 := Lib.hid h0
  rw [h0]
  clear h0
  have hs_W2 : w.heap.size ≤ W2.heap.size := mB.size
  obtain ⟨c6_0, c6_1, c6_2, c6_3⟩ := zcs4 m6
  go_wp2_with fail
  clear c6_0 c6_1 c6_2 c6_3
  have hcon := place_any x t W2
  (with_reducible refine hcon.mono ?_)
  clear hcon
  rintro e W3 ⟨rfl, hb⟩
  have hgl : g < W2.heap.size := by obtain ⟨_, _, _, _, h_, _⟩ := hT; exact blk_lt h_
  have hTT2 : ∀ W', Below w0.heap.size w0 W' → W'.heap[g]? = W3.heap[g]? → TripAt W' g s v := fun W' h1 h2 => hTT W' h1 (h2.trans (hb.block g hgl))
  replace hT := hT.below hb
  have HTT := Lib.hid hTT2
  clear hTT hTT2
  replace m4 := blk_below m4 hb
  replace m5 := blk_below m5 hb
  replace m6 := blk_below m6 hb
  replace mB := below_step mB hb
  clear hb
  go_wp2
  go_ret2
  exact ⟨_, zq14, mB, .inl ⟨H0.out, g, rfl, hg0, hT, HTT.out⟩⟩
/-- What Reach returns. -/
def ReachX (s : Sea) (v : Veh) (x : S31) (t d : Int) : List S31 × Int := if beginE s v x t ≠ 0 then ([], beginE s v x t) else if d < 0 ∨ d > 64 then ([], 3) else hullsI s v d.toNat x t []
set_option maxRecDepth 100000 in
set_option maxHeartbeats 8000000 in
theorem Reach_any (s : Sea) (v : Veh) (x : S31) (t d : Int) (A7 A8 : Option Addr) (c7 c8 : Nat) (w : World) (h7 : s.shores.length ≤ c7) (hC7 : Kd.C Kd.bool w A7 s.shores.length s.shores) (h8 : s.currents.length ≤ c8) (hC8 : Kd.C k40 w A8 s.currents.length s.currents) :
  Calls Try.prog 50 #[.agg #[.int .i64 s.nx, .int .i64 s.ny, .int .i64 s.cell, .int .i64 s.slot, .int .i64 s.slots, .int .i64 s.layers, .int .i64 s.most, .slice A7 s.shores.length c7, .slice A8 s.currents.length c8], .agg #[.int .i64 v.speed, .int .i64 v.dive, .int .i64 v.use.f0, .int .i64 v.use.f1, .int .i64 v.drift.f0, .int .i64 v.drift.f1, .int .i64 v.reserve], .agg #[.int .i64 x.f0.f0, .int .i64 x.f0.f1, .int .i64 x.f1.f0, .int .i64 x.f1.f1], .int .i64 t, .int .i64 d] w (HullPost (ReachX s v x t d) w) := by
 have hu25 := Try.underlying25
 have hu29 := Try.underlying29
 have hu31 := Try.underlying31
 have hu27 := Try.underlying27
 have HX : Hid (ReachX s v x t d = if beginE s v x t ≠ 0 then ([], beginE s v x t) else if d < 0 ∨ d > 64 then ([], 3) else hullsI s v d.toNat x t []) := Lib.hid rfl
 go_enter Try.func50, Try.ntmps50
 go_wp2_with fail
 have m5 : Blk (((w.alloc (.cells #[.int .i64 s.nx, .int .i64 s.ny, .int .i64 s.cell, .int .i64 s.slot, .int .i64 s.slots, .int .i64 s.layers, .int .i64 s.most, .slice A7 s.shores.length c7, .slice A8 s.currents.length c8] 25)).alloc (.cells #[.int .i64 v.speed, .int .i64 v.dive, .int .i64 v.use.f0, .int .i64 v.use.f1, .int .i64 v.drift.f0, .int .i64 v.drift.f1, .int .i64 v.reserve] 29)).alloc (.cells #[.int .i64 x.f0.f0, .int .i64 x.f0.f1, .int .i64 x.f1.f0, .int .i64 x.f1.f1] 31)) (w.heap.size) #[.int .i64 s.nx, .int .i64 s.ny, .int .i64 s.cell, .int .i64 s.slot, .int .i64 s.slots, .int .i64 s.layers, .int .i64 s.most, .slice A7 s.shores.length c7, .slice A8 s.currents.length c8] 25 := (blk_alloc (blk_alloc zq13 _) _)
 have m6 : Blk (((w.alloc (.cells #[.int .i64 s.nx, .int .i64 s.ny, .int .i64 s.cell, .int .i64 s.slot, .int .i64 s.slots, .int .i64 s.layers, .int .i64 s.most, .slice A7 s.shores.length c7, .slice A8 s.currents.length c8] 25)).alloc (.cells #[.int .i64 v.speed, .int .i64 v.dive, .int .i64 v.use.f0, .int .i64 v.use.f1, .int .i64 v.drift.f0, .int .i64 v.drift.f1, .int .i64 v.reserve] 29)).alloc (.cells #[.int .i64 x.f0.f0, .int .i64 x.f0.f1, .int .i64 x.f1.f0, .int .i64 x.f1.f1] 31)) (w.heap.size + 1) #[.int .i64 v.speed, .int .i64 v.dive, .int .i64 v.use.f0, .int .i64 v.use.f1, .int .i64 v.drift.f0, .int .i64 v.drift.f1, .int .i64 v.reserve] 29 := (blk_alloc zq35 _)
 have m7 : Blk (((w.alloc (.cells #[.int .i64 s.nx, .int .i64 s.ny, .int .i64 s.cell, .int .i64 s.slot, .int .i64 s.slots, .int .i64 s.layers, .int .i64 s.most, .slice A7 s.shores.length c7, .slice A8 s.currents.length c8] 25)).alloc (.cells #[.int .i64 v.speed, .int .i64 v.dive, .int .i64 v.use.f0, .int .i64 v.use.f1, .int .i64 v.drift.f0, .int .i64 v.drift.f1, .int .i64 v.reserve] 29)).alloc (.cells #[.int .i64 x.f0.f0, .int .i64 x.f0.f1, .int .i64 x.f1.f0, .int .i64 x.f1.f1] 31)) (w.heap.size + 1 + 1) #[.int .i64 x.f0.f0, .int .i64 x.f0.f1, .int .i64 x.f1.f0, .int .i64 x.f1.f1] 31 := zq36
 have mB : Below w.heap.size w (((w.alloc (.cells #[.int .i64 s.nx, .int .i64 s.ny, .int .i64 s.cell, .int .i64 s.slot, .int .i64 s.slots, .int .i64 s.layers, .int .i64 s.most, .slice A7 s.shores.length c7, .slice A8 s.currents.length c8] 25)).alloc (.cells #[.int .i64 v.speed, .int .i64 v.dive, .int .i64 v.use.f0, .int .i64 v.use.f1, .int .i64 v.drift.f0, .int .i64 v.drift.f1, .int .i64 v.reserve] 29)).alloc (.cells #[.int .i64 x.f0.f0, .int .i64 x.f0.f1, .int .i64 x.f1.f0, .int .i64 x.f1.f1] 31)) := (below_alloc (below_alloc (below_alloc (Below.refl w.heap.size w) _) _) _)
 have hsz_ : w.heap.size ≤ w.heap.size := Nat.le_refl _
 generalize hW_ : (((w.alloc (.cells #[.int .i64 s.nx, .int .i64 s.ny, .int .i64 s.cell, .int .i64 s.slot, .int .i64 s.slots, .int .i64 s.layers, .int .i64 s.most, .slice A7 s.shores.length c7, .slice A8 s.currents.length c8] 25)).alloc (.cells #[.int .i64 v.speed, .int .i64 v.dive, .int .i64 v.use.f0, .int .i64 v.use.f1, .int .i64 v.drift.f0, .int .i64 v.drift.f1, .int .i64 v.reserve] 29)).alloc (.cells #[.int .i64 x.f0.f0, .int .i64 x.f0.f1, .int .i64 x.f1.f0, .int .i64 x.f1.f1] 31)) = W1 at m5 m6 m7 mB ⊢
 clear hW_
 generalize hg5 : w.heap.size = g5 at m5 m6 m7 ⊢
 have hG5 : w.heap.size ≤ g5 := by omega
 generalize hg6 : g5 + 1 = g6 at m6 m7 ⊢
 have hn_5_6 : g5 ≠ g6 := by omega
 have hn_6_5 : g6 ≠ g5 := hn_5_6.symm
 have hG6 : w.heap.size ≤ g6 := by omega
 generalize hg7 : g6 + 1 = g7 at m7 ⊢
 have hn_5_7 : g5 ≠ g7 := by omega
 have hn_6_7 : g6 ≠ g7 := by omega
 have hn_7_5 : g7 ≠ g5 := hn_5_7.symm
 have hn_7_6 : g7 ≠ g6 := hn_6_7.symm
 have hG7 : w.heap.size ≤ g7 := by omega
 clear hsz_
 try clear hg7
 try clear hg6
 try clear hg5
 have hs_W1 : w.heap.size ≤ W1.heap.size := mB.size
 have hbg : beginE s v x t = if tripE s v ≠ 0 then tripE s v else placeE x t := rfl
 have HBG := Lib.hid hbg
 clear hbg
 obtain ⟨c5_0, c5_1, c5_2, c5_3, c5_4, c5_5, c5_6, c5_7, c5_8⟩ := zcs9 m5
 obtain ⟨c6_0, c6_1, c6_2, c6_3, c6_4, c6_5, c6_6⟩ := zcs7 m6
 obtain ⟨c7_0, c7_1, c7_2, c7_3⟩ := zcs4 m7
 go_wp2_with fail
 clear c5_0 c5_1 c5_2 c5_3 c5_4 c5_5 c5_6 c5_7 c5_8 c6_0 c6_1 c6_2 c6_3 c6_4 c6_5 c6_6 c7_0 c7_1 c7_2 c7_3
 have hcon := begin_any s v x t A7 A8 c7 c8 W1 h7 (Kd.C_below hC7 mB) h8 (Kd.C_below hC8 mB)
 (with_reducible refine hcon.mono ?_)
 clear hcon
 rintro e W2 ⟨ptr, rfl, hb, hpt⟩
 replace m5 := blk_below m5 hb
 replace m6 := blk_below m6 hb
 replace m7 := blk_below m7 hb
 replace mB := below_step mB hb
 clear hb
 have hs_W2 : w.heap.size ≤ W2.heap.size := mB.size
 generalize hE_ : beginE s v x t = E0 at *
 have HE0 := Lib.hid hE_
 clear hE_
 by_cases h0 : E0 = 0
 case neg =>
  have HZ := Lib.hid (HX.out.trans (if_pos h0))
  have hd1 : (E0 == 0) = false := beq_eq_false_iff_ne.2 h0
  have hd2 : (E0 != 0) = true := by rw [bne, hd1]; rfl
  clear h0 hpt HX
  go_wp2
  go_ret2
  exact ⟨_, zq14, zq43, mB⟩
 case pos =>
  have HX2 := Lib.hid (HX.out.trans (if_neg (fun h => h h0)))
  clear HX
  have hb0 := HBG.out.symm.trans h0
  obtain ⟨ht0, hp0⟩ := ite_ne_zero hb0
  obtain ⟨hbx, htt0, htt1⟩ := place_ok hp0
  obtain ⟨hSV, hVN⟩ := tripE_ok ht0
  rcases hpt with ⟨_, g, rfl, hg, hT⟩ | ⟨hbad, _⟩
  case inr => exact absurd ht0 hbad
  case inl =>
   subst h0
   clear hb0 ht0 hp0 HBG
   by_cases hd : d < 0 ∨ d > 64
   case pos =>
    have HZ := Lib.hid (HX2.out.trans (if_pos hd))
    clear HX2
    by_cases hq : d < 0
    case pos =>
     clear hd
     go_wp2
     go_ret2
     exact ⟨_, zq14, zq43, mB⟩
    case neg =>
     have hq2 : d > 64 := by omega
     clear hd
     go_wp2
     go_ret2
     exact ⟨_, zq14, zq43, mB⟩
   case neg =>
    have HX3 := Lib.hid (HX2.out.trans (if_neg hd))
    clear HX2
    have hq : ¬ d < 0 := by omega
    have hq2 : ¬ d > 64 := by omega
    clear hd
    obtain ⟨m, rfl⟩ : ∃ m : Nat, d = m := ⟨d.toNat, by omega⟩
    skip
    obtain ⟨c7_0, c7_1, c7_2, c7_3⟩ := zcs4 m7
    go_wp2_with fail
    clear c7_0 c7_1 c7_2 c7_3
    skip
    have hcon := hulls_any g s v x t m W2 hT hSV hVN hbx htt0 htt1 (by omega)
    rw [Int.toNat_natCast] at HX3
    (with_reducible refine hcon.mono ?_)
    clear hcon
    rintro e W5 ⟨v0_, rfl, HR, hb⟩
    generalize hullsI s v m x t [] = R at *
    go_wp2
    go_ret2
    exact ⟨_, by rw [HX3.out]; rfl, by rw [HX3.out]; exact Kd.R_lower HR mB.size, below_step mB hb⟩
end Go.Proofs.Ytmhaiihjfgfaoaa.Gl
end
section
/- The contracts of exported functions, as the printed texts ask for them. -/
namespace Go.Proofs.Ytmhaiihjfgfaoaa.Pr
open Go.RowKit Go.Proofs.YtmhaiihjfgfaoaaW.PrintWords Go.Proofs.YtmhaiihjfgfaoaaW.PrintLast Go.Proofs.YtmhaiihjfgfaoaaW.PrintMore Go.Proofs.Ytmhaiihjfgfaoaa.Gl
set_option linter.unusedVariables false
def glider_Reach.f (a0_0 : Int) (a0_1 : Int) (a0_2 : Int) (a0_3 : Int) (a0_4 : Int) (a0_5 : Int) (a0_6 : Int) (l0_7 : List Bool) (l0_8 : List (S40)) (a1_0 : Int) (a1_1 : Int) (a1_2 : Int) (a1_3 : Int) (a1_4 : Int) (a1_5 : Int) (a1_6 : Int) (a2_0 : Int) (a2_1 : Int) (a2_2 : Int) (a2_3 : Int) (a3 : Int) (a4 : Int) : Option ((List (S31)) × Int) := some (ReachX ⟨a0_0, a0_1, a0_2, a0_3, a0_4, a0_5, a0_6, l0_7, l0_8⟩ ⟨a1_0, a1_1, ⟨a1_2, a1_3⟩, ⟨a1_4, a1_5⟩, a1_6⟩ ⟨⟨a2_0, a2_1⟩, ⟨a2_2, a2_3⟩⟩ a3 a4)
theorem glider_Reach.calls (a0_0 : Int) (a0_1 : Int) (a0_2 : Int) (a0_3 : Int) (a0_4 : Int) (a0_5 : Int) (a0_6 : Int) (A0_7 : Option Addr) (c0_7 : Nat) (l0_7 : List Bool) (A0_8 : Option Addr) (c0_8 : Nat) (l0_8 : List (S40)) (a1_0 : Int) (a1_1 : Int) (a1_2 : Int) (a1_3 : Int) (a1_4 : Int) (a1_5 : Int) (a1_6 : Int) (a2_0 : Int) (a2_1 : Int) (a2_2 : Int) (a2_3 : Int) (a3 : Int) (a4 : Int) (r1 : List (S31)) (r2 : Int) (w : World) (hr0_7 : Kd.C Kd.bool w A0_7 l0_7.length l0_7) (hc0_7 : l0_7.length ≤ c0_7) (hr0_8 : Kd.C k40 w A0_8 l0_8.length l0_8) (hc0_8 : l0_8.length ≤ c0_8) (h : glider_Reach.f a0_0 a0_1 a0_2 a0_3 a0_4 a0_5 a0_6 l0_7 l0_8 a1_0 a1_1 a1_2 a1_3 a1_4 a1_5 a1_6 a2_0 a2_1 a2_2 a2_3 a3 a4 = some (r1, r2)) :
  Calls Try.prog 50 #[.agg #[.int .i64 a0_0, .int .i64 a0_1, .int .i64 a0_2, .int .i64 a0_3, .int .i64 a0_4, .int .i64 a0_5, .int .i64 a0_6, .slice A0_7 l0_7.length c0_7, .slice A0_8 l0_8.length c0_8], .agg #[.int .i64 a1_0, .int .i64 a1_1, .int .i64 a1_2, .int .i64 a1_3, .int .i64 a1_4, .int .i64 a1_5, .int .i64 a1_6], .agg #[.int .i64 a2_0, .int .i64 a2_1, .int .i64 a2_2, .int .i64 a2_3], .int .i64 a3, .int .i64 a4] w fun e w' => ∃ v0_ : Value, e = .returned (.tuple #[v0_, .int .i64 r2]) ∧ Kd.R k31 31 w' w.heap.size (fun _ => True) v0_ r1 ∧ Below w.heap.size w w' := by
 have e_ := Option.some.inj h
 have q_ := Reach_any ⟨a0_0, a0_1, a0_2, a0_3, a0_4, a0_5, a0_6, l0_7, l0_8⟩ ⟨a1_0, a1_1, ⟨a1_2, a1_3⟩, ⟨a1_4, a1_5⟩, a1_6⟩ ⟨⟨a2_0, a2_1⟩, ⟨a2_2, a2_3⟩⟩ a3 a4 A0_7 A0_8 c0_7 c0_8 w hc0_7 hr0_7 hc0_8 hr0_8
 rw [e_] at q_
 exact q_
end Go.Proofs.Ytmhaiihjfgfaoaa.Pr
end
section
/- The contracts of exported functions, as the printed texts ask for them. -/
namespace Go.Proofs.Ytmhaiihjfgfaoaa.Pr
open Go.RowKit Go.Proofs.YtmhaiihjfgfaoaaW.PrintWords Go.Proofs.YtmhaiihjfgfaoaaW.PrintLast Go.Proofs.YtmhaiihjfgfaoaaW.PrintMore Go.Proofs.Ytmhaiihjfgfaoaa.Gl
set_option linter.unusedVariables false
def glider_Run.f (a0_0 : Int) (a0_1 : Int) (a0_2 : Int) (a0_3 : Int) (a0_4 : Int) (a0_5 : Int) (a0_6 : Int) (l0_7 : List Bool) (l0_8 : List (S40)) (a1_0 : Int) (a1_1 : Int) (a1_2 : Int) (a1_3 : Int) (a1_4 : Int) (a1_5 : Int) (a1_6 : Int) (a2_0 : Int) (a2_1 : Int) (a2_2 : Int) (a2_3 : Int) (a3 : Int) (l4 : List (S33)) : Option ((List (S31)) × Int × Int) := some (RunX ⟨a0_0, a0_1, a0_2, a0_3, a0_4, a0_5, a0_6, l0_7, l0_8⟩ ⟨a1_0, a1_1, ⟨a1_2, a1_3⟩, ⟨a1_4, a1_5⟩, a1_6⟩ ⟨⟨a2_0, a2_1⟩, ⟨a2_2, a2_3⟩⟩ a3 l4)
theorem glider_Run.calls (a0_0 : Int) (a0_1 : Int) (a0_2 : Int) (a0_3 : Int) (a0_4 : Int) (a0_5 : Int) (a0_6 : Int) (A0_7 : Option Addr) (c0_7 : Nat) (l0_7 : List Bool) (A0_8 : Option Addr) (c0_8 : Nat) (l0_8 : List (S40)) (a1_0 : Int) (a1_1 : Int) (a1_2 : Int) (a1_3 : Int) (a1_4 : Int) (a1_5 : Int) (a1_6 : Int) (a2_0 : Int) (a2_1 : Int) (a2_2 : Int) (a2_3 : Int) (a3 : Int) (A4 : Option Addr) (c4 : Nat) (l4 : List (S33)) (r1 : List (S31)) (r2 : Int) (r3 : Int) (w : World) (hr0_7 : Kd.C Kd.bool w A0_7 l0_7.length l0_7) (hc0_7 : l0_7.length ≤ c0_7) (hr0_8 : Kd.C k40 w A0_8 l0_8.length l0_8) (hc0_8 : l0_8.length ≤ c0_8) (hr4 : Kd.C k33 w A4 l4.length l4) (hc4 : l4.length ≤ c4) (h : glider_Run.f a0_0 a0_1 a0_2 a0_3 a0_4 a0_5 a0_6 l0_7 l0_8 a1_0 a1_1 a1_2 a1_3 a1_4 a1_5 a1_6 a2_0 a2_1 a2_2 a2_3 a3 l4 = some (r1, r2, r3)) :
  Calls Try.prog 30 #[.agg #[.int .i64 a0_0, .int .i64 a0_1, .int .i64 a0_2, .int .i64 a0_3, .int .i64 a0_4, .int .i64 a0_5, .int .i64 a0_6, .slice A0_7 l0_7.length c0_7, .slice A0_8 l0_8.length c0_8], .agg #[.int .i64 a1_0, .int .i64 a1_1, .int .i64 a1_2, .int .i64 a1_3, .int .i64 a1_4, .int .i64 a1_5, .int .i64 a1_6], .agg #[.int .i64 a2_0, .int .i64 a2_1, .int .i64 a2_2, .int .i64 a2_3], .int .i64 a3, .slice A4 l4.length c4] w fun e w' => ∃ v0_ : Value, e = .returned (.tuple #[v0_, .int .i64 r2, .int .i64 r3]) ∧ Kd.R k31 31 w' w.heap.size (fun _ => True) v0_ r1 ∧ Below w.heap.size w w' := by
 have e_ := Option.some.inj h
 have q_ := Run_any ⟨a0_0, a0_1, a0_2, a0_3, a0_4, a0_5, a0_6, l0_7, l0_8⟩ ⟨a1_0, a1_1, ⟨a1_2, a1_3⟩, ⟨a1_4, a1_5⟩, a1_6⟩ ⟨⟨a2_0, a2_1⟩, ⟨a2_2, a2_3⟩⟩ a3 A4 c4 l4 A0_7 A0_8 c0_7 c0_8 w hc0_7 hr0_7 hc0_8 hr0_8 hr4 hc4
 rw [e_] at q_
 exact q_
end Go.Proofs.Ytmhaiihjfgfaoaa.Pr
end
section
/- Rows of courses of the call's own. -/
namespace Go.Proofs.Ytmhaiihjfgfaoaa.Gl
open Go.RowKit Go.Shelf Go.Proofs.YtmhaiihjfgfaoaaW.PrintWords Go.Proofs.YtmhaiihjfgfaoaaW.PrintLast Go.Proofs.YtmhaiihjfgfaoaaW.PrintMore Go.Proofs.Ytmhaiihjfgfaoaa.Pr Go.Proofs.YtmhaiihjfgfaoaaW.Round
set_option linter.unusedVariables false
set_option linter.unusedSimpArgs false
attribute [local go_sem] max2_int min2_int max_two min_two max_four
/-- The cells of courses. -/
def cosC (l : List S33) : List Value := l.flatMap fun c => [.int .i64 c.f0, .int .i64 c.f1]
theorem cosC_len (l : List S33) : (cosC l).length = l.length * 2 := by
 induction l with
 | nil => rfl
 | cons c l ih => unfold cosC at *; rw [List.flatMap_cons, List.length_append, ih]; simp; omega
theorem cosC_snoc (l : List S33) (c : S33) : cosC (l ++ [c]) = cosC l ++ [.int .i64 c.f0, .int .i64 c.f1] := by unfold cosC; simp
theorem cosC_one (l : List S33) : ∀ u ∈ cosC l, u.oneCell' = true := by
 intro u hu
 obtain ⟨c, _, hc⟩ := List.mem_flatMap.1 hu
 simp only [List.mem_cons, List.not_mem_nil, or_false] at hc
 rcases hc with rfl | rfl <;> rfl
theorem cosC_reps (w : World) (base : Nat) (ok : Nat → Prop) (l : List S33) : Reps (k33.M w base ok) 2 l (cosC l) := by
 suffices h : ∀ (a b : List S33), Reps (k33.M w base ok) 2 a (cosC a) → Reps (k33.M w base ok) 2 (a ++ b) (cosC (a ++ b)) by
  have := h [] l (Reps.none _ _)
  rwa [List.nil_append] at this
 intro a b
 induction b generalizing a with
 | nil => intro h; rwa [List.append_nil]
 | cons c b ih =>
  intro h
  have h2 := ih (a ++ [c]) (by rw [cosC_snoc]; exact h.snoc (k33_mkM _ _ _ c) rfl)
  rwa [List.append_assoc, List.singleton_append] at h2
/-- A row of courses that the call owns. -/
def CoAt (W : World) (base : Nat) (v : Value) (l : List S33) : Prop := W.ownsRow base 33 2 v l.length (cosC l)
theorem CoAt.toR {W : World} {base : Nat} {v : Value} {l : List S33} (h : CoAt W base v l) : Kd.R k33 33 W base (fun _ => True) v l := ⟨fun _ _ => trivial, cosC l, h, cosC_reps _ _ _ _⟩
theorem CoAt.nil (W : World) (base : Nat) : CoAt W base (.slice none 0 0) [] := World.ownsRow_nil _ _ _ _
theorem CoAt.move {W W1 : World} {base : Nat} {v : Value} {l : List S33} (h : CoAt W base v l) (hm : ∀ k, v.ownBlock = some k → W1.heap[k]? = W.heap[k]?) : CoAt W1 base v l := own_move h hm
theorem CoAt.lt {W : World} {base : Nat} {v : Value} {l : List S33} (h : CoAt W base v l) (k : Nat) (hk : v.ownBlock = some k) : base ≤ k ∧ k < W.heap.size := World.ownsRow.lt h k hk
theorem CoAt.below {W W1 : World} {base : Nat} {v : Value} {l : List S33} (h : CoAt W base v l) (hb : Below W.heap.size W W1) : CoAt W1 base v l := h.move (fun k hk => hb.block k (h.lt k hk).2)
theorem CoAt.ne {W : World} {base : Nat} {v : Value} {l : List S33} (h : CoAt W base v l) {g : Nat} {cs : Array Value} {t : TypeId} (hg : Blk W g cs t) (ht : t ≠ 33) : some g ≠ v.ownBlock := own_ne h hg (fun e => ht e.symm)
theorem CoAt.lower {W : World} {base base' : Nat} {v : Value} {l : List S33} (h : CoAt W base v l) (hb : base' ≤ base) : CoAt W base' v l := own_weaken h hb
theorem CoAt.slice {W : World} {base : Nat} {v : Value} {l : List S33} (h : CoAt W base v l) : ∃ A c, v = .slice A l.length c := by
 rcases h.2 with ⟨rfl, h0⟩ | ⟨g, cap, cur, rfl, _⟩
 ·exact ⟨none, 0, by rw [h0]⟩
 ·exact ⟨_, _, rfl⟩
theorem CoAt.back {W : World} {base g cap n : Nat} {xs ys : List Value} {e : TypeId} (h : W.ownsRow base e 2 (.slice (some ⟨g, 0, none⟩) (n + 1) cap) (n + 1) (xs ++ ys)) (hx : xs.length = n * 2) : W.ownsRow base e 2 (.slice (some ⟨g, 0, none⟩) n cap) n xs := by
 rcases h.2 with ⟨h1, _⟩ | ⟨g', cap', cur, hv, hb, hg, hn, hm, hs, ht⟩
 ·cases h1
 ·injection hv with h1 h2 h3
  injection h1 with h1
  injection h1 with h1
  subst h1
  subst h3
  refine ⟨hx, .inr ⟨g, cap, cur, rfl, hb, hg, by omega, hm, hs, ?_⟩⟩
  have h4 := congrArg (List.take (n * 2)) ht
  rw [List.take_take, show min (n * 2) ((n + 1) * 2) = n * 2 by omega, ← hx, List.take_left] at h4
  rw [← hx]
  exact h4
section
variable {P : Program} {b : Frame} {a : Act} {k : List Item} {cs : List Frame} {w : World} {Q : Exit → Act → World → Prop} {F : Fence} {n : Nat}
theorem stepR_scope {c : Code} : step P (lone (b.atR a (.code (.scope c) :: k)) cs w) = .next (lone (b.atR a (.code c :: .inScope c :: k)) cs w) :=
 step_lone_go (by simp [stepG, stepG.exec, Frame.atR])
theorem stepR_inScope {c : Code} : step P (lone (b.atR a (.inScope c :: k)) cs w) = .next (lone (b.atR a k) cs w) :=
 step_lone_go (by simp [stepG, stepG.exec, Frame.atR])
/-- A scope through which the run goes without a goto, inside a fence. -/
theorem wpIn_scope {c : Code} (h : c.wpIn F n P (Exit.noGoto Q) a w) : (Code.scope c).wpIn F n P Q a w := by
 intro b k cs hro hb hr
 have h0 : (lone (b.atR a (.code (.scope c) :: k)) cs w).fenced P F := fenced_calm hb hr rfl
 obtain ⟨e, a₁, w₁, hq, harr⟩ := h b (.inScope c :: k) cs hro hb hr
 cases e with
 | normal => exact ⟨.normal, a₁, w₁, hq, .head h0 stepR_scope (StepsIn.trans harr (.one (fenced_calm hb hr rfl) stepR_inScope))⟩
 | exit id =>
  have hx : exitTo id (.inScope c :: k) = exitTo id k := by simp [exitTo]
  exact ⟨.exit id, a₁, w₁, hq, fun k' hk => .head h0 stepR_scope (harr.1 k' (by rw [hx]; exact hk)),
   fun hr' hk => let ⟨k₁, h1, h2⟩ := harr.2 hr' (by rw [hx]; exact hk); ⟨k₁, h1, .head h0 stepR_scope h2⟩⟩
 | goto l => exact hq.elim
 | ret => exact ⟨_, a₁, w₁, hq, .of_steps (.one h0 stepR_scope) harr⟩
 | panic ch => exact ⟨_, a₁, w₁, hq, .of_steps (.one h0 stepR_scope) harr⟩
 | outgrown => exact ⟨_, a₁, w₁, hq, .of_steps (.one h0 stepR_scope) harr⟩
end
section
variable {P : Program}
/-- append of one course: what the longer row leaves of the shorter one. -/
theorem run_append_back (w : World) (base : Nat) (t ty e : TypeId) (i : TypeInfo) (z : Value) (bytes : Nat) (ht : P.underlying t = some (.slice e)) (hi : P.info? e = some i) (hz : i.zero = some z)
  (hsize : i.size = 2) (hby : i.bytes = bytes) (hzs : z.cells.size = 2)
  (v : Value) (n : Nat) (xs : List Value) (hown : w.ownsRow base e 2 v n xs)
  (a : Addr) (c : Nat) (news : List Value) (hl : news.length = 2) (hnews : ∀ j u, news[j]? = some u → w.cell? (a.add j) = some u) (h1 : ∀ u ∈ news, u.oneCell' = true)
  (h63 : n + 1 ≤ maxLen) (hbytes : (n + 1) * bytes ≤ 140737488355328) (hbase : base ≤ w.heap.size) :
  ∃ v' w', (Builtin.append_ #[t, t] ty #[v, .slice (some a) 1 c]).run P w = .ok v' w' ∧ w'.ownsRow base e 2 v' (n + 1) (xs ++ news) ∧ w.grownBy w' v.ownBlock ∧ w'.ownsRow base e 2 v n xs ∧
   ((v'.ownBlock = v.ownBlock ∧ ∀ W' : World, W'.ownsRow base e 2 v' (n + 1) (xs ++ news) → W'.ownsRow base e 2 v n xs) ∨ v'.ownBlock = some w.heap.size) := by
 obtain ⟨v', w', hr, h2, h3, _, hat⟩ := run_append_own_at (P := P) w base t ty e i z 2 bytes ht hi hz hsize hby hzs (by decide) v n xs hown a 1 c news (by rw [hl]) hnews h1 h63 hbytes hbase
 refine ⟨v', w', hr, h2, h3, ?_⟩
 rcases hown.2 with ⟨rfl, rfl⟩ | ⟨g, cap, cur, rfl, hbg, hg, hnc, hcm, hcs, htake⟩
 ·rcases hat with hat | hat
  ·exfalso
   rcases h2.2 with ⟨_, h⟩ | ⟨g, cap, cur, rfl, _⟩
   ·omega
   ·cases hat
  ·exact ⟨World.ownsRow_nil _ _ _ _ |> fun h => by
    have hx : xs = [] := List.eq_nil_of_length_eq_zero (by simpa using hown.1)
    rw [hx]; exact h, .inr hat⟩
 ·by_cases hroom : n + 1 ≤ cap
  ·have hfit : n * i.size + news.length ≤ cur.size := by rw [hl, hsize, hcs]; omega
   have hr2 := run_append_room (P := P) w t ty e i ht hi g n cap cur hg a 1 c news (by rw [hl, hsize]) hnews h1 hroom hfit
   rw [hr] at hr2
   injection hr2 with hr2 _
   subst hr2
   exact ⟨CoAt.back h2 hown.1, .inl ⟨rfl, fun W' h => CoAt.back h hown.1⟩⟩
  ·have holds : ∀ j u, xs[j]? = some u → w.cell? ((⟨g, 0, none⟩ : Addr).add j) = some u := hown.cells (g := g) rfl
   have hlim : n + 1 ≤ 9223372036854775807 := by simp only [maxLen] at h63; omega
   have hr2 := run_append_grow (P := P) w t ty e i z ht hi hz ⟨g, 0, none⟩ n cap xs (by rw [hsize]; exact hown.1) holds a 1 c news (by rw [hl, hsize]) hnews (by omega) (by omega) (growslice_fits (by omega) (by rw [hby]; exact hbytes))
   rw [hr] at hr2
   injection hr2 with hr2 hr3
   subst hr2
   subst hr3
   exact ⟨World.ownsRow.alloc (World.ownsRow.drew hown) _, .inr rfl⟩
variable {ops : Array Oper} {o : Oper} {a : Act} {Q : Exit → Act → World → Prop} {K : Act → World → Prop}
theorem step_append_back {w0 W : World} (base : Nat) (hw : Region.wanted o (yielded ops a.tmps) = true) (s x : Operand) (t e : TypeId) (z : Value) (bytes : Nat)
  (ho : o.op = .call { callee := .builtin .append, args := #[s, x], argTypes := #[t, t] })
  (ht : P.underlying t = some (.slice e)) (hinfo : (P.info? e).map (fun i => (i.zero, i.size, i.bytes)) = some (some z, 2, bytes)) (hz : z.cells.size = 2) (hb0 : 0 < bytes)
  (v : Value) (n : Nat) (xs ys : List Value) (hs : a.eval s = v) (hx : a.eval x = .slice (some ⟨W.heap.size, 0, none⟩) 1 1) (hys : ys.length = 2) (h1 : ∀ u ∈ ys, u.oneCell' = true)
  (HO : W.ownsRow base e 2 v n xs) (HB : Below base w0 W) (hbase : base ≤ W.heap.size) (hl : (n + 1) * bytes ≤ 140737488355328)
  (h : ∀ v1 w1, w1.ownsRow base e 2 v1 (n + 1) (xs ++ ys) → Below base w0 w1 → W.grownBy w1 v.ownBlock → w1.ownsRow base e 2 v n xs → ((v1.ownBlock = v.ownBlock ∧ ∀ W' : World, W'.ownsRow base e 2 v1 (n + 1) (xs ++ ys) → W'.ownsRow base e 2 v n xs) ∨ ∃ b, v1.ownBlock = some b ∧ W.heap.size ≤ b) → K (a.put o.dst v1) w1) :
  if Region.wanted o (yielded ops a.tmps) = true then Oper.wp P o a (W.alloc (.cells ys.toArray e)) K Q else K (a.put o.dst undef) (W.alloc (.cells ys.toArray e)) := by
 obtain ⟨i0, hi, hzz⟩ := Option.map_eq_some_iff.1 hinfo
 simp only [Prod.mk.injEq] at hzz
 obtain ⟨hz0, hz1, hz2⟩ := hzz
 have hlen : n + 1 ≤ 140737488355328 := Nat.le_trans (Nat.le_mul_of_pos_right _ hb0) hl
 rw [if_pos hw]
 obtain ⟨v1, w1, hr, hown, hg, hst, hat⟩ := run_append_back (P := P) (W.alloc (.cells ys.toArray e)) base t o.type e i0 z bytes ht hi hz0 hz1 hz2 hz v n xs (HO.alloc _) ⟨W.heap.size, 0, none⟩ 1 ys hys
  (by simpa using World.news_of_block (cs := ys.toArray) (t := e) (fr := (0, 0)) (heap_alloc_new W (.cells ys.toArray e))) h1 (by simp only [maxLen]; omega) hl (by simp; omega)
 unfold Oper.wp execOp
 simp only [ho, resolve, invoke, builtin, Sem.run_bind, Sem.run_pure, Result.andThen_ok, List.map_toArray, List.map_cons, List.map_nil, hs, hx, hr]
 refine h v1 w1 hown ((HB.alloc hbase _).grown hg (by simp; omega) (own_base HO)) (World.grownBy.trans (World.grownBy_alloc W _ _) hg) hst ?_
 rcases hat with hat | hat
 ·exact .inl hat
 ·exact .inr ⟨_, hat, by simp⟩
/-- A call of a function value that has captured something. -/
theorem goesV_ {oi : Oper} {N : Option Tmp} {w : World} {f : FuncId} {fn : Func} {x : Operand} {os : Array Operand} {ts : Array TypeId} (hf : P.funcs[f]? = some fn) (hname : (fn.name == "runtime.NumGoroutine") = false) (hb : fn.body.isSome = true) (args lb : Array Value)
  (hw : Region.wanted oi (yielded ops a.tmps) = true) (hN : oi.dst = N) (hop : oi.op = .call { callee := .value x, args := os, argTypes := ts }) (hx : a.eval x = .func (.func f) #[] lb) (hargs : os.map a.eval = args)
  (h : Calls P f (args ++ lb) w fun e w' => ∃ v, e = .returned v ∧ K (a.put N v) w') : if Region.wanted oi (yielded ops a.tmps) = true then Oper.wp P oi a w K Q else K (a.put N undef) w := by
 refine call_ f (args ++ lb) hw hN ?_ h
 have he := enters_ hf hname hb (args ++ lb) w
 unfold execOp
 simp [hop, hx, resolve, Deferred.ofValue, invoke, hargs, he]
end
set_option maxRecDepth 100000 in
set_option maxHeartbeats 4000000 in
/-- slices.Clone of courses that a call owns. -/
theorem clone_any (b n c : Nat) (news : List Value) (w : World) (hn : news.length = n * 2) (hsm : n ≤ 64) (hc : ∀ j u, news[j]? = some u → w.cell? ⟨b, 0 + j, none⟩ = some u) (h1 : ∀ u ∈ news, u.oneCell' = true) :
  Calls Try.prog 108 #[.slice (some ⟨b, 0, none⟩) n c] w fun e w' => ∃ v', e = .returned v' ∧ w'.ownsRow w.heap.size 33 2 v' n news ∧ Below w.heap.size w w' := by
 obtain ⟨i0, hi, hzz⟩ := Option.map_eq_some_iff.1 info33
 simp only [Prod.mk.injEq] at hzz
 obtain ⟨hz0, hz1, hz2⟩ := hzz
 have q22 : ∀ (w : World) (a : Option Addr) (n c n' c' : Nat), (binOp .eql 49 (.slice a n c) (.slice none n' c')).run Try.prog w = .ok (.bool a.isNone) w := fun w a n c n' c' => Lib.run_eql_slice_nil w _ _ a n c n' c' Try.underlying49
 have A : Aside (∀ j u, news[j]? = some u → w.cell? ⟨b, 0 + j, none⟩ = some u) := hc
 clear hc
 go_enter Try.func108, Try.ntmps108
 go_wp2_with (at_builtin; refine wpList_append_own _ rfl _ _ 49 rfl w.heap.size 33 i0 (.agg #[.int .i64 0, .int .i64 0]) 2 16 Try.underlying49 hi hz0 hz1 hz2 rfl (by decide) _ _ _ rfl (World.ownsRow_made w #[] 0 (Nat.le_refl _) (Nat.zero_le _) (by simp)) ⟨b, 0, none⟩ n c news rfl ?qc1 ?qc2 ?qc3 ?qc4 ?qc5 ?qc6 ?_)
 case qc1 => exact hn
 case qc2 =>
  intro j u hj
  rw [Addr.add_lit]
  exact Lib.cell?_alloc_some _ (A.out j u hj)
 case qc3 => exact h1
 case qc4 => rw [Nat.zero_add]; simp only [maxLen]; omega
 case qc5 => rw [Nat.zero_add]; omega
 case qc6 => simp
 intro v' w1 hown hgrow hnil
 go_wp2
 go_ret
 refine ⟨v', rfl, by simpa using hown, ?_⟩
 exact ((Below.refl _ w).alloc (Nat.le_refl _) _).grown hgrow (by simp) (by intro k hk; simp [Value.ownBlock] at hk; omega)
theorem cloneCo_any (v : Value) (l : List S33) (base : Nat) (w : World) (h : CoAt w base v l) (h0 : 0 < l.length) (hsm : l.length ≤ 64) :
  Calls Try.prog 108 #[v] w fun e w' => ∃ v', e = .returned v' ∧ CoAt w' w.heap.size v' l ∧ Below w.heap.size w w' := by
 obtain ⟨g, cap, rfl, _⟩ := World.ownsRow.form h h0
 refine clone_any g l.length cap (cosC l) w (cosC_len l) hsm (fun j u hu => ?_) (cosC_one l)
 have := World.ownsRow.cells h (g := g) rfl j u hu
 rwa [Addr.add_lit] at this
end Go.Proofs.Ytmhaiihjfgfaoaa.Gl
end
section
namespace Go.Proofs.Ytmhaiihjfgfaoaa.Pr
open Go.RowKit Go.Proofs.YtmhaiihjfgfaoaaW.PrintWords Go.Proofs.YtmhaiihjfgfaoaaW.PrintLast Go.Proofs.YtmhaiihjfgfaoaaW.PrintMore
attribute [local go_sem] max2_int min2_int max_two min_two max_four
set_option linter.unusedVariables false
set_option linter.unusedSimpArgs false

/-! ### glider_validPickup: function 93 -/
def glider_validPickup.f (k : Nat) (a0_0 : Int) (a0_1 : Int) (a0_2 : Int) (a0_3 : Int) (a0_4 : Int) (a0_5 : Int) : Option (Bool) := (bound_CheckBox.f k a0_0 a0_1 a0_2 a0_3).bind fun t735 => (if t735 = 0 then (if a0_4 ≥ 0 then (if a0_4 ≤ a0_5 then (some (decide (a0_5 ≤ 1073741824))) else (some false)) else (some false)) else (some false))
set_option maxHeartbeats 8000000 in
set_option maxRecDepth 100000 in
theorem glider_validPickup.calls (k : Nat) (a0_0 : Int) (a0_1 : Int) (a0_2 : Int) (a0_3 : Int) (a0_4 : Int) (a0_5 : Int) (r : Bool) (w : World) (h : glider_validPickup.f k a0_0 a0_1 a0_2 a0_3 a0_4 a0_5 = some r) :
  Calls Try.prog 93 #[.agg #[.int .i64 a0_0, .int .i64 a0_1, .int .i64 a0_2, .int .i64 a0_3, .int .i64 a0_4, .int .i64 a0_5]] w fun e w' => e = .returned (.bool r) ∧ Below w.heap.size w w' := by
 have hu81 := Try.underlying81
 have hu31 := Try.underlying31
 have HB := Aside0.mk (Below.refl w.heap.size w)
 have H : ((bound_CheckBox.f k a0_0 a0_1 a0_2 a0_3).bind fun t735 => (if t735 = 0 then (if a0_4 ≥ 0 then (if a0_4 ≤ a0_5 then (some (decide (a0_5 ≤ 1073741824))) else (some false)) else (some false)) else (some false))) = some r := h
 clear h
 replace H := Option.bind_eq_some_iff.mp H
 obtain ⟨t735, A20, H⟩ := H
 replace H : (if t735 = 0 then (if a0_4 ≥ 0 then (if a0_4 ≤ a0_5 then (some (decide (a0_5 ≤ 1073741824))) else (some false)) else (some false)) else (some false)) = some r := H
 have A2 := Aside0.mk A20
 clear A20
 by_cases c3 : t735 = 0
 ·rw [if_pos c3] at H
  have c3b0 : (t735 == 0) = true := beq_iff_eq.mpr c3
  have c3b1 : (t735 != 0) = false := bne_eq_false_iff_eq.mpr c3
  clear c3
  by_cases c4 : a0_4 ≥ 0
  ·rw [if_pos c4] at H
   have c4b0 : decide (0 ≤ a0_4) = true := decide_eq_true c4
   clear c4
   by_cases c5 : a0_4 ≤ a0_5
   ·rw [if_pos c5] at H
    have c5b0 : decide (a0_4 ≤ a0_5) = true := decide_eq_true c5
    clear c5
    obtain rfl := Option.some.inj H
    go_enter Try.func93, Try.ntmps93
    go_wp2_with (first | ((with_reducible refine gate_dst (N := 1) rfl ?_); refine box_event (by rfl) (N := 1) (by rfl) (cs := #[.int .i64 a0_0, .int .i64 a0_1, .int .i64 a0_2, .int .i64 a0_3, .int .i64 a0_4, .int .i64 a0_5]) (t := 81) zq4 ?_; intro gb734 hg w6 hbox hb; have BK734 := Aside0.mk (hbox); have GW734 := zgs HB hg; have GE734 := zgs HB hg; replace HB := zbs HB hb; clear hb hbox hg; obtain ⟨hcz7_0, hcz7_1, hcz7_2, hcz7_3, hcz7_4, hcz7_5, hfz7_0, hfz7_1, hfz7_2, hfz7_3, hfz7_4, hfz7_5⟩ := zce6 BK734.out) | ((with_reducible refine gate_callee (f := 67) rfl ?_); refine goesL_ (some 5) rfl rfl Try.func67 zq1 rfl #[.agg #[.int .i64 a0_0, .int .i64 a0_1, .int .i64 a0_2, .int .i64 a0_3]] rfl zq6 ?_; (with_reducible refine (bound_CheckBox.calls k a0_0 a0_1 a0_2 a0_3 t735 _ A2.out).mono ?_); rintro e w8 ⟨rfl, hb⟩; refine ⟨_, rfl, ?_⟩; replace BK734 := zbb BK734 hb; replace HB := zbs HB hb; (try clear hb); (try clear hb2); (try clear hk); (try clear hi); obtain ⟨hcz9_0, hcz9_1, hcz9_2, hcz9_3, hcz9_4, hcz9_5, hfz9_0, hfz9_1, hfz9_2, hfz9_3, hfz9_4, hfz9_5⟩ := zce6 BK734.out))
    go_ret
    exact ⟨zq5, zbz⟩
   ·rw [if_neg c5] at H
    have c5b0 : decide (a0_4 ≤ a0_5) = false := decide_eq_false c5
    clear c5
    obtain rfl := Option.some.inj H
    go_enter Try.func93, Try.ntmps93
    go_wp2_with (first | ((with_reducible refine gate_dst (N := 1) rfl ?_); refine box_event (by rfl) (N := 1) (by rfl) (cs := #[.int .i64 a0_0, .int .i64 a0_1, .int .i64 a0_2, .int .i64 a0_3, .int .i64 a0_4, .int .i64 a0_5]) (t := 81) zq4 ?_; intro gb734 hg w10 hbox hb; have BK734 := Aside0.mk (hbox); have GW734 := zgs HB hg; have GE734 := zgs HB hg; replace HB := zbs HB hb; clear hb hbox hg; obtain ⟨hcz11_0, hcz11_1, hcz11_2, hcz11_3, hcz11_4, hcz11_5, hfz11_0, hfz11_1, hfz11_2, hfz11_3, hfz11_4, hfz11_5⟩ := zce6 BK734.out) | ((with_reducible refine gate_callee (f := 67) rfl ?_); refine goesL_ (some 5) rfl rfl Try.func67 zq1 rfl #[.agg #[.int .i64 a0_0, .int .i64 a0_1, .int .i64 a0_2, .int .i64 a0_3]] rfl zq6 ?_; (with_reducible refine (bound_CheckBox.calls k a0_0 a0_1 a0_2 a0_3 t735 _ A2.out).mono ?_); rintro e w12 ⟨rfl, hb⟩; refine ⟨_, rfl, ?_⟩; replace BK734 := zbb BK734 hb; replace HB := zbs HB hb; (try clear hb); (try clear hb2); (try clear hk); (try clear hi); obtain ⟨hcz13_0, hcz13_1, hcz13_2, hcz13_3, hcz13_4, hcz13_5, hfz13_0, hfz13_1, hfz13_2, hfz13_3, hfz13_4, hfz13_5⟩ := zce6 BK734.out))
    go_ret
    exact ⟨zq5, zbz⟩
  ·rw [if_neg c4] at H
   have c4b0 : decide (0 ≤ a0_4) = false := decide_eq_false c4
   clear c4
   obtain rfl := Option.some.inj H
   go_enter Try.func93, Try.ntmps93
   go_wp2_with (first | ((with_reducible refine gate_dst (N := 1) rfl ?_); refine box_event (by rfl) (N := 1) (by rfl) (cs := #[.int .i64 a0_0, .int .i64 a0_1, .int .i64 a0_2, .int .i64 a0_3, .int .i64 a0_4, .int .i64 a0_5]) (t := 81) zq4 ?_; intro gb734 hg w14 hbox hb; have BK734 := Aside0.mk (hbox); have GW734 := zgs HB hg; have GE734 := zgs HB hg; replace HB := zbs HB hb; clear hb hbox hg; obtain ⟨hcz15_0, hcz15_1, hcz15_2, hcz15_3, hcz15_4, hcz15_5, hfz15_0, hfz15_1, hfz15_2, hfz15_3, hfz15_4, hfz15_5⟩ := zce6 BK734.out) | ((with_reducible refine gate_callee (f := 67) rfl ?_); refine goesL_ (some 5) rfl rfl Try.func67 zq1 rfl #[.agg #[.int .i64 a0_0, .int .i64 a0_1, .int .i64 a0_2, .int .i64 a0_3]] rfl zq6 ?_; (with_reducible refine (bound_CheckBox.calls k a0_0 a0_1 a0_2 a0_3 t735 _ A2.out).mono ?_); rintro e w16 ⟨rfl, hb⟩; refine ⟨_, rfl, ?_⟩; replace BK734 := zbb BK734 hb; replace HB := zbs HB hb; (try clear hb); (try clear hb2); (try clear hk); (try clear hi); obtain ⟨hcz17_0, hcz17_1, hcz17_2, hcz17_3, hcz17_4, hcz17_5, hfz17_0, hfz17_1, hfz17_2, hfz17_3, hfz17_4, hfz17_5⟩ := zce6 BK734.out))
   go_ret
   exact ⟨zq5, zbz⟩
 ·rw [if_neg c3] at H
  have c3b0 : (t735 == 0) = false := beq_eq_false_iff_ne.mpr c3
  have c3b1 : (t735 != 0) = true := bne_iff_ne.mpr c3
  obtain rfl := Option.some.inj H
  go_enter Try.func93, Try.ntmps93
  go_wp2_with (first | ((with_reducible refine gate_dst (N := 1) rfl ?_); refine box_event (by rfl) (N := 1) (by rfl) (cs := #[.int .i64 a0_0, .int .i64 a0_1, .int .i64 a0_2, .int .i64 a0_3, .int .i64 a0_4, .int .i64 a0_5]) (t := 81) zq4 ?_; intro gb734 hg w18 hbox hb; have BK734 := Aside0.mk (hbox); have GW734 := zgs HB hg; have GE734 := zgs HB hg; replace HB := zbs HB hb; clear hb hbox hg; obtain ⟨hcz19_0, hcz19_1, hcz19_2, hcz19_3, hcz19_4, hcz19_5, hfz19_0, hfz19_1, hfz19_2, hfz19_3, hfz19_4, hfz19_5⟩ := zce6 BK734.out) | ((with_reducible refine gate_callee (f := 67) rfl ?_); refine goesL_ (some 5) rfl rfl Try.func67 zq1 rfl #[.agg #[.int .i64 a0_0, .int .i64 a0_1, .int .i64 a0_2, .int .i64 a0_3]] rfl zq6 ?_; (with_reducible refine (bound_CheckBox.calls k a0_0 a0_1 a0_2 a0_3 t735 _ A2.out).mono ?_); rintro e w20 ⟨rfl, hb⟩; refine ⟨_, rfl, ?_⟩; replace BK734 := zbb BK734 hb; replace HB := zbs HB hb; (try clear hb); (try clear hb2); (try clear hk); (try clear hi)))
  go_ret
  exact ⟨zq5, zbz⟩

end Go.Proofs.Ytmhaiihjfgfaoaa.Pr
end
section
/- The contracts of exported functions, as the printed texts ask for them. -/
namespace Go.Proofs.Ytmhaiihjfgfaoaa.Pr
open Go.RowKit Go.Proofs.YtmhaiihjfgfaoaaW.PrintWords Go.Proofs.YtmhaiihjfgfaoaaW.PrintLast Go.Proofs.YtmhaiihjfgfaoaaW.PrintMore Go.Proofs.Ytmhaiihjfgfaoaa.Gl
set_option linter.unusedVariables false
def glider_inside.f (a0_0 : Int) (a0_1 : Int) (a0_2 : Int) (a0_3 : Int) (a1_0 : Int) (a1_1 : Int) (a1_2 : Int) (a1_3 : Int) : Option (Int) := some (insI ⟨⟨a0_0, a0_1⟩, ⟨a0_2, a0_3⟩⟩ ⟨⟨a1_0, a1_1⟩, ⟨a1_2, a1_3⟩⟩)
theorem glider_inside.calls (a0_0 : Int) (a0_1 : Int) (a0_2 : Int) (a0_3 : Int) (a1_0 : Int) (a1_1 : Int) (a1_2 : Int) (a1_3 : Int) (r : Int) (w : World) (h : glider_inside.f a0_0 a0_1 a0_2 a0_3 a1_0 a1_1 a1_2 a1_3 = some r) :
  Calls Try.prog 89 #[.agg #[.int .i64 a0_0, .int .i64 a0_1, .int .i64 a0_2, .int .i64 a0_3], .agg #[.int .i64 a1_0, .int .i64 a1_1, .int .i64 a1_2, .int .i64 a1_3]] w fun e w' => e = .returned (.int .i64 r) ∧ Below w.heap.size w w' := by
 cases h
 exact inside_any ⟨⟨a0_0, a0_1⟩, ⟨a0_2, a0_3⟩⟩ ⟨⟨a1_0, a1_1⟩, ⟨a1_2, a1_3⟩⟩ w
end Go.Proofs.Ytmhaiihjfgfaoaa.Pr
end
section
namespace Go.Proofs.Ytmhaiihjfgfaoaa.Pr
open Go.RowKit Go.Proofs.YtmhaiihjfgfaoaaW.PrintWords Go.Proofs.YtmhaiihjfgfaoaaW.PrintLast Go.Proofs.YtmhaiihjfgfaoaaW.PrintMore
attribute [local go_sem] max2_int min2_int max_two min_two max_four
set_option linter.unusedVariables false
set_option linter.unusedSimpArgs false

/-! ### glider_fetched: function 94 -/
end Go.Proofs.Ytmhaiihjfgfaoaa.Pr
end
section
/- Is a run fetched, and is a pickup valid: what the program computes. -/
namespace Go.Proofs.Ytmhaiihjfgfaoaa.Gl
open Go.RowKit Go.Proofs.YtmhaiihjfgfaoaaW.PrintWords Go.Proofs.YtmhaiihjfgfaoaaW.PrintLast Go.Proofs.YtmhaiihjfgfaoaaW.PrintMore Go.Proofs.Ytmhaiihjfgfaoaa.Pr
set_option linter.unusedVariables false
/-- Is a pickup valid? -/
def pickB (p : S81) : Bool := boxB p.f0 && decide (0 ≤ p.f1) && decide (p.f1 ≤ p.f2) && decide (p.f2 ≤ 1073741824)
theorem pick_some (p : S81) : glider_validPickup.f 4 p.f0.f0.f0 p.f0.f0.f1 p.f0.f1.f0 p.f0.f1.f1 p.f1 p.f2 = some (pickB p) := by
 unfold glider_validPickup.f pickB
 rw [box_some p.f0, Option.bind_some]
 unfold boxE
 cases boxB p.f0 with
 | false => rfl
 | true =>
  rw [if_pos rfl, if_pos rfl]
  by_cases h1 : p.f1 ≥ 0
  ·rw [if_pos h1, decide_eq_true (show 0 ≤ p.f1 from h1)]
   by_cases h2 : p.f1 ≤ p.f2
   ·rw [if_pos h2, decide_eq_true h2]; rfl
   ·rw [if_neg h2, decide_eq_false h2]; rfl
  ·rw [if_neg h1, decide_eq_false (show ¬(0 ≤ p.f1) from h1)]; rfl
end Go.Proofs.Ytmhaiihjfgfaoaa.Gl
end
section
/- Is a plan good: what the program answers. -/
namespace Go.Proofs.Ytmhaiihjfgfaoaa.Gl
open Go.RowKit Go.Shelf Go.Proofs.YtmhaiihjfgfaoaaW.PrintWords Go.Proofs.YtmhaiihjfgfaoaaW.PrintLast Go.Proofs.YtmhaiihjfgfaoaaW.PrintMore Go.Proofs.Ytmhaiihjfgfaoaa.Pr Go.Proofs.YtmhaiihjfgfaoaaW.Round
set_option linter.unusedVariables false
set_option linter.unusedSimpArgs false
attribute [local go_sem] max2_int min2_int max_two min_two max_four
theorem tripE_veh {s : Sea} {v : Veh} (h : tripE s v = 0) : vehB v = true := by
 unfold tripE at h
 obtain ⟨_, h2⟩ := ite_ne_zero h
 unfold vehE at h2
 cases hb : vehB v with
 | true => rfl
 | false => rw [hb] at h2; cases h2
end Go.Proofs.Ytmhaiihjfgfaoaa.Gl
end
section
/- The search for the best plan: what it computes, and that this is the first plan of the least cost. -/
namespace Go.Proofs.Ytmhaiihjfgfaoaa.Gl
open Go.RowKit Go.Proofs.YtmhaiihjfgfaoaaW.PrintWords Go.Proofs.YtmhaiihjfgfaoaaW.PrintLast Go.Proofs.Ytmhaiihjfgfaoaa.Pr
/-- Is the vehicle there after a dive? -/
def hereB (p : S81) (u : Int) (x : S31) : Bool := btwB u p.f1 p.f2 && decide (insI x p.f0 = 2)
/-- A course is tried. -/
def tryV (v : Veh) (left cost : Int) (c : S33) (st : List S33 × Int) (next : List S33 × Int) : List S33 × Int :=
 if left - (takeI v c).f1 < v.reserve then st else if 0 ≤ st.2 ∧ st.2 ≤ cost + (takeI v c).f1 then st else next
/-- The search, as the program does it. -/
def growV (s : Sea) (v : Veh) (p : S81) : Nat → S31 → Int → Int → Int → List S33 → Bool → List S33 × Int → List S33 × Int
 | 0, _, _, _, cost, plan, there, st => if there = true ∧ (st.2 < 0 ∨ cost < st.2) then (plan, cost) else st
 | n + 1, x, t, left, cost, plan, there, st => (crsL s).foldl (fun st c => tryV v left cost c st (if diveE s v x t ≠ 0 then st else
  growV s v p n (diveV s v x t c.f0 c.f1) (t + v.dive) (left - (takeI v c).f1) (cost + (takeI v c).f1) (plan ++ [c]) (there || hereB p (t + v.dive) (diveV s v x t c.f0 c.f1)) st)) st
/-- One course of it. -/
def stepG (s : Sea) (v : Veh) (p : S81) (n : Nat) (x : S31) (t left cost : Int) (plan : List S33) (there : Bool) (st : List S33 × Int) (c : S33) : List S33 × Int :=
 tryV v left cost c st (if diveE s v x t ≠ 0 then st else
  growV s v p n (diveV s v x t c.f0 c.f1) (t + v.dive) (left - (takeI v c).f1) (cost + (takeI v c).f1) (plan ++ [c]) (there || hereB p (t + v.dive) (diveV s v x t c.f0 c.f1)) st)
theorem growV_succ (s : Sea) (v : Veh) (p : S81) (n : Nat) (x : S31) (t left cost : Int) (plan : List S33) (there : Bool) (st : List S33 × Int) : growV s v p (n + 1) x t left cost plan there st = (crsL s).foldl (stepG s v p n x t left cost plan there) st := rfl
theorem tryV_same (v : Veh) (left cost : Int) (c : S33) (st : List S33 × Int) : tryV v left cost c st st = st := by
 unfold tryV
 split
 ·rfl
 ·split <;> rfl
/-- All searches, the shortest ones first. -/
def bestV (s : Sea) (v : Veh) (p : S81) (x : S31) (t : Int) (e : S27) : Nat → List S33 × Int
 | 0 => ([], -1)
 | n + 1 => growV s v p (n + 1) x t e.f0 0 [] false (bestV s v p x t e n)
/-- What Best returns. -/
def BestE (s : Sea) (v : Veh) (x : S31) (t : Int) (e : S27) (p : S81) (d : Int) : Int :=
 if beginE s v x t ≠ 0 then beginE s v x t else if bndB e.f0 e.f1 0 1073741824 = false then 2 else if pickB p = false then 2 else if d < 1 then 3 else if 3 < d then 3
 else if (bestV s v p x t e d.toNat).2 < 0 then 15 else 0
/-- The plan that Best returns, and its cost. -/
def BestX (s : Sea) (v : Veh) (x : S31) (t : Int) (e : S27) (p : S81) (d : Int) : List S33 × Int :=
 if BestE s v x t e p d = 0 then bestV s v p x t e d.toNat else ([], 0)
theorem foldl_same {α β : Type} {f : β → α → β} : ∀ (l : List α) (b : β), (∀ b a, a ∈ l → f b a = b) → l.foldl f b = b
 | [], _, _ => rfl
 | a :: l, b, h => by rw [List.foldl_cons, h b a List.mem_cons_self]; exact foldl_same l _ (fun b' a' ha => h b' a' (List.mem_cons_of_mem _ ha))
end Go.Proofs.Ytmhaiihjfgfaoaa.Gl
end
section
/- Which boxes are a proof, as the program checks them. -/
namespace Go.Proofs.Ytmhaiihjfgfaoaa.Gl
open Go.RowKit Go.Shelf Go.Proofs.YtmhaiihjfgfaoaaW.PrintWords Go.Proofs.YtmhaiihjfgfaoaaW.PrintLast Go.Proofs.YtmhaiihjfgfaoaaW.PrintMore Go.Proofs.Ytmhaiihjfgfaoaa.Pr Go.Proofs.YtmhaiihjfgfaoaaW.Round
set_option linter.unusedVariables false
set_option linter.unusedSimpArgs false
attribute [local go_sem] max2_int min2_int max_two min_two max_four
attribute [local go_sem] Oper.semAt_some
/-- What a round keeps: the trip and what the iterator has captured. -/
def KpD (w : World) (g bp : Nat) (tc : Array Value) (A B : World) : Prop := Below w.heap.size A B ∧ (Blk A g tc 110 → Blk B g tc 110) ∧ (Blk A bp #[.pointer (some ⟨g, 0, none⟩)] 104 → Blk B bp #[.pointer (some ⟨g, 0, none⟩)] 104)
theorem KpD.trans {w : World} {g bp : Nat} {tc : Array Value} {A B C : World} (h : KpD w g bp tc A B) (k : KpD w g bp tc B C) : KpD w g bp tc A C := ⟨h.1.trans k.1, fun q => k.2.1 (h.2.1 q), fun q => k.2.2 (h.2.2 q)⟩
theorem KpD.put {w W0 : World} {g bp : Nat} {tc : Array Value} (hw : w.heap.size ≤ W0.heap.size) (hg : g < W0.heap.size) (hp : bp < W0.heap.size) (W : World) (l : Nat) (o o' : Obj) (hl : W0.heap.size ≤ l) (h : W.heap[l]? = some o) (h1 : o.isCells = false) (h2 : o.isWalk = false) : KpD w g bp tc W (W.putObj l o') :=
 ⟨belowK_b hw W l o o' hl h h1 h2, fun q => (World.putObj_heap_other (by omega)).trans q, fun q => (World.putObj_heap_other (by omega)).trans q⟩
theorem KpD.below {w : World} {g bp : Nat} {tc : Array Value} {A B : World} (hw : w.heap.size ≤ A.heap.size) (h : Below A.heap.size A B) : KpD w g bp tc A B := ⟨h.mono hw, fun q => Blk.belowH q h, fun q => Blk.belowH q h⟩
end Go.Proofs.Ytmhaiihjfgfaoaa.Gl
end
