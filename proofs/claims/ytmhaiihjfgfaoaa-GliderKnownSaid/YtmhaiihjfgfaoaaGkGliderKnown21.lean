/- Part 21 of the proof of GliderKnown: what the functions compute. No condition. -/
import Derived.Laws.EntriesVeiled
import Derived.Test.YtmhaiihjfgfaoaaGkGliderKnown3
import Derived.Test.YtmhaiihjfgfaoaaGkGliderKnown20
import Derived.Test.YtmhaiihjfgfaoaaGkGliderKnown18
import Derived.Test.YtmhaiihjfgfaoaaGkGliderKnown17
import Derived.Test.YtmhaiihjfgfaoaaGkGliderKnown6
set_option linter.unusedVariables false
set_option linter.unusedSimpArgs false
section
/- The best plan, as the program finds it. -/
namespace Go.Proofs.Ytmhaiihjfgfaoaa.Gl
open Go.RowKit Go.Shelf Go.Proofs.YtmhaiihjfgfaoaaW.PrintWords Go.Proofs.YtmhaiihjfgfaoaaW.PrintLast Go.Proofs.YtmhaiihjfgfaoaaW.PrintMore Go.Proofs.Ytmhaiihjfgfaoaa.Pr Go.Proofs.YtmhaiihjfgfaoaaW.Round
set_option linter.unusedVariables false
set_option linter.unusedSimpArgs false
attribute [local go_sem] max2_int min2_int max_two min_two max_four
attribute [local go_sem] Oper.semAt_some
/-- All that Best returns. -/
def BestR (s : Sea) (v : Veh) (x : S31) (t : Int) (e : S27) (p : S81) (d : Int) : List S33 × Int × Int := ((BestX s v x t e p d).1, (BestX s v x t e p d).2, BestE s v x t e p d)
theorem BestR_err {s : Sea} {v : Veh} {x : S31} {t : Int} {e : S27} {p : S81} {d E : Int} (h : BestE s v x t e p d = E) (h0 : E ≠ 0) : BestR s v x t e p d = ([], 0, E) := by
 unfold BestR BestX
 rw [h, if_neg h0]
def BestPost (R : List S33 × Int × Int) (w : World) (e : Ending) (w' : World) : Prop := ∃ v0_ : Value, e = .returned (.tuple #[v0_, .int .i64 R.2.1, .int .i64 R.2.2]) ∧ Kd.R k33 33 w' w.heap.size (fun _ => True) v0_ R.1 ∧ Below w.heap.size w w'
theorem bestV_succ (s : Sea) (v : Veh) (p : S81) (x : S31) (t : Int) (e : S27) (n : Nat) : bestV s v p x t e (n + 1) = growV s v p (n + 1) x t e.f0 0 [] false (bestV s v p x t e n) := rfl
set_option maxRecDepth 100000 in
set_option maxHeartbeats 32000000 in
theorem Best_any (s : Sea) (v : Veh) (x : S31) (t : Int) (ev : S27) (p : S81) (d : Int) (A7 A8 : Option Addr) (c7 c8 : Nat) (w : World) (h7 : s.shores.length ≤ c7) (hC7 : Kd.C Kd.bool w A7 s.shores.length s.shores) (h8 : s.currents.length ≤ c8) (hC8 : Kd.C k40 w A8 s.currents.length s.currents) :
  Calls Try.prog 57 #[.agg #[.int .i64 s.nx, .int .i64 s.ny, .int .i64 s.cell, .int .i64 s.slot, .int .i64 s.slots, .int .i64 s.layers, .int .i64 s.most, .slice A7 s.shores.length c7, .slice A8 s.currents.length c8], .agg #[.int .i64 v.speed, .int .i64 v.dive, .int .i64 v.use.f0, .int .i64 v.use.f1, .int .i64 v.drift.f0, .int .i64 v.drift.f1, .int .i64 v.reserve], .agg #[.int .i64 x.f0.f0, .int .i64 x.f0.f1, .int .i64 x.f1.f0, .int .i64 x.f1.f1], .int .i64 t, .agg #[.int .i64 ev.f0, .int .i64 ev.f1], .agg #[.int .i64 p.f0.f0.f0, .int .i64 p.f0.f0.f1, .int .i64 p.f0.f1.f0, .int .i64 p.f0.f1.f1, .int .i64 p.f1, .int .i64 p.f2], .int .i64 d] w (BestPost (BestR s v x t ev p d) w) := by
 have hu25 := Try.underlying25
 have hu31 := Try.underlying31
 have hu33 := Try.underlying33
 have hu27 := Try.underlying27
 have hu29 := Try.underlying29
 have hu81 := Try.underlying81
 have HX : Hid (BestE s v x t ev p d = if beginE s v x t ≠ 0 then beginE s v x t else if bndB ev.f0 ev.f1 0 1073741824 = false then 2 else if pickB p = false then 2 else if d < 1 then 3 else if 3 < d then 3
  else if (bestV s v p x t ev d.toNat).2 < 0 then 15 else 0) := Lib.hid rfl
 have HERR : Hid (∀ E, BestE s v x t ev p d = E → E ≠ 0 → BestR s v x t ev p d = ([], 0, E)) := Lib.hid (fun E h h0 => BestR_err h h0)
 have HOK : Hid (BestE s v x t ev p d = 0 → BestR s v x t ev p d = ((bestV s v p x t ev d.toNat).1, (bestV s v p x t ev d.toNat).2, 0)) := Lib.hid (fun h => by unfold BestR BestX; rw [h, if_pos rfl])
 generalize BestE s v x t ev p d = EE at *
 generalize BestR s v x t ev p d = RR at *
 have hbg : beginE s v x t = if tripE s v ≠ 0 then tripE s v else placeE x t := rfl
 have HBG := Lib.hid hbg
 clear hbg
 go_enter Try.func57, Try.ntmps57
 go_wp2_with fail
 have m7 : Blk (((((w.alloc (.cells #[.int .i64 s.nx, .int .i64 s.ny, .int .i64 s.cell, .int .i64 s.slot, .int .i64 s.slots, .int .i64 s.layers, .int .i64 s.most, .slice A7 s.shores.length c7, .slice A8 s.currents.length c8] 25)).alloc (.cells #[.int .i64 v.speed, .int .i64 v.dive, .int .i64 v.use.f0, .int .i64 v.use.f1, .int .i64 v.drift.f0, .int .i64 v.drift.f1, .int .i64 v.reserve] 29)).alloc (.cells #[.int .i64 x.f0.f0, .int .i64 x.f0.f1, .int .i64 x.f1.f0, .int .i64 x.f1.f1] 31)).alloc (.cells #[.int .i64 ev.f0, .int .i64 ev.f1] 27)).alloc (.cells #[.int .i64 p.f0.f0.f0, .int .i64 p.f0.f0.f1, .int .i64 p.f0.f1.f0, .int .i64 p.f0.f1.f1, .int .i64 p.f1, .int .i64 p.f2] 81)) (w.heap.size) #[.int .i64 s.nx, .int .i64 s.ny, .int .i64 s.cell, .int .i64 s.slot, .int .i64 s.slots, .int .i64 s.layers, .int .i64 s.most, .slice A7 s.shores.length c7, .slice A8 s.currents.length c8] 25 := (blk_alloc (blk_alloc (blk_alloc (blk_alloc zq13 _) _) _) _)
 have m8 : Blk (((((w.alloc (.cells #[.int .i64 s.nx, .int .i64 s.ny, .int .i64 s.cell, .int .i64 s.slot, .int .i64 s.slots, .int .i64 s.layers, .int .i64 s.most, .slice A7 s.shores.length c7, .slice A8 s.currents.length c8] 25)).alloc (.cells #[.int .i64 v.speed, .int .i64 v.dive, .int .i64 v.use.f0, .int .i64 v.use.f1, .int .i64 v.drift.f0, .int .i64 v.drift.f1, .int .i64 v.reserve] 29)).alloc (.cells #[.int .i64 x.f0.f0, .int .i64 x.f0.f1, .int .i64 x.f1.f0, .int .i64 x.f1.f1] 31)).alloc (.cells #[.int .i64 ev.f0, .int .i64 ev.f1] 27)).alloc (.cells #[.int .i64 p.f0.f0.f0, .int .i64 p.f0.f0.f1, .int .i64 p.f0.f1.f0, .int .i64 p.f0.f1.f1, .int .i64 p.f1, .int .i64 p.f2] 81)) (w.heap.size + 1) #[.int .i64 v.speed, .int .i64 v.dive, .int .i64 v.use.f0, .int .i64 v.use.f1, .int .i64 v.drift.f0, .int .i64 v.drift.f1, .int .i64 v.reserve] 29 := (blk_alloc (blk_alloc (blk_alloc zq35 _) _) _)
 have m9 : Blk (((((w.alloc (.cells #[.int .i64 s.nx, .int .i64 s.ny, .int .i64 s.cell, .int .i64 s.slot, .int .i64 s.slots, .int .i64 s.layers, .int .i64 s.most, .slice A7 s.shores.length c7, .slice A8 s.currents.length c8] 25)).alloc (.cells #[.int .i64 v.speed, .int .i64 v.dive, .int .i64 v.use.f0, .int .i64 v.use.f1, .int .i64 v.drift.f0, .int .i64 v.drift.f1, .int .i64 v.reserve] 29)).alloc (.cells #[.int .i64 x.f0.f0, .int .i64 x.f0.f1, .int .i64 x.f1.f0, .int .i64 x.f1.f1] 31)).alloc (.cells #[.int .i64 ev.f0, .int .i64 ev.f1] 27)).alloc (.cells #[.int .i64 p.f0.f0.f0, .int .i64 p.f0.f0.f1, .int .i64 p.f0.f1.f0, .int .i64 p.f0.f1.f1, .int .i64 p.f1, .int .i64 p.f2] 81)) (w.heap.size + 1 + 1) #[.int .i64 x.f0.f0, .int .i64 x.f0.f1, .int .i64 x.f1.f0, .int .i64 x.f1.f1] 31 := (blk_alloc (blk_alloc zq36 _) _)
 have m11 : Blk (((((w.alloc (.cells #[.int .i64 s.nx, .int .i64 s.ny, .int .i64 s.cell, .int .i64 s.slot, .int .i64 s.slots, .int .i64 s.layers, .int .i64 s.most, .slice A7 s.shores.length c7, .slice A8 s.currents.length c8] 25)).alloc (.cells #[.int .i64 v.speed, .int .i64 v.dive, .int .i64 v.use.f0, .int .i64 v.use.f1, .int .i64 v.drift.f0, .int .i64 v.drift.f1, .int .i64 v.reserve] 29)).alloc (.cells #[.int .i64 x.f0.f0, .int .i64 x.f0.f1, .int .i64 x.f1.f0, .int .i64 x.f1.f1] 31)).alloc (.cells #[.int .i64 ev.f0, .int .i64 ev.f1] 27)).alloc (.cells #[.int .i64 p.f0.f0.f0, .int .i64 p.f0.f0.f1, .int .i64 p.f0.f1.f0, .int .i64 p.f0.f1.f1, .int .i64 p.f1, .int .i64 p.f2] 81)) (w.heap.size + 1 + 1 + 1) #[.int .i64 ev.f0, .int .i64 ev.f1] 27 := (blk_alloc (by have h_ := blk_new (((w.alloc (.cells #[.int .i64 s.nx, .int .i64 s.ny, .int .i64 s.cell, .int .i64 s.slot, .int .i64 s.slots, .int .i64 s.layers, .int .i64 s.most, .slice A7 s.shores.length c7, .slice A8 s.currents.length c8] 25)).alloc (.cells #[.int .i64 v.speed, .int .i64 v.dive, .int .i64 v.use.f0, .int .i64 v.use.f1, .int .i64 v.drift.f0, .int .i64 v.drift.f1, .int .i64 v.reserve] 29)).alloc (.cells #[.int .i64 x.f0.f0, .int .i64 x.f0.f1, .int .i64 x.f1.f0, .int .i64 x.f1.f1] 31)) (.cells #[.int .i64 ev.f0, .int .i64 ev.f1] 27); first | exact h_ | (simp only [World.size_alloc] at h_; exact h_)) _)
 have m12 : Blk (((((w.alloc (.cells #[.int .i64 s.nx, .int .i64 s.ny, .int .i64 s.cell, .int .i64 s.slot, .int .i64 s.slots, .int .i64 s.layers, .int .i64 s.most, .slice A7 s.shores.length c7, .slice A8 s.currents.length c8] 25)).alloc (.cells #[.int .i64 v.speed, .int .i64 v.dive, .int .i64 v.use.f0, .int .i64 v.use.f1, .int .i64 v.drift.f0, .int .i64 v.drift.f1, .int .i64 v.reserve] 29)).alloc (.cells #[.int .i64 x.f0.f0, .int .i64 x.f0.f1, .int .i64 x.f1.f0, .int .i64 x.f1.f1] 31)).alloc (.cells #[.int .i64 ev.f0, .int .i64 ev.f1] 27)).alloc (.cells #[.int .i64 p.f0.f0.f0, .int .i64 p.f0.f0.f1, .int .i64 p.f0.f1.f0, .int .i64 p.f0.f1.f1, .int .i64 p.f1, .int .i64 p.f2] 81)) (w.heap.size + 1 + 1 + 1 + 1) #[.int .i64 p.f0.f0.f0, .int .i64 p.f0.f0.f1, .int .i64 p.f0.f1.f0, .int .i64 p.f0.f1.f1, .int .i64 p.f1, .int .i64 p.f2] 81 := (by have h_ := blk_new ((((w.alloc (.cells #[.int .i64 s.nx, .int .i64 s.ny, .int .i64 s.cell, .int .i64 s.slot, .int .i64 s.slots, .int .i64 s.layers, .int .i64 s.most, .slice A7 s.shores.length c7, .slice A8 s.currents.length c8] 25)).alloc (.cells #[.int .i64 v.speed, .int .i64 v.dive, .int .i64 v.use.f0, .int .i64 v.use.f1, .int .i64 v.drift.f0, .int .i64 v.drift.f1, .int .i64 v.reserve] 29)).alloc (.cells #[.int .i64 x.f0.f0, .int .i64 x.f0.f1, .int .i64 x.f1.f0, .int .i64 x.f1.f1] 31)).alloc (.cells #[.int .i64 ev.f0, .int .i64 ev.f1] 27)) (.cells #[.int .i64 p.f0.f0.f0, .int .i64 p.f0.f0.f1, .int .i64 p.f0.f1.f0, .int .i64 p.f0.f1.f1, .int .i64 p.f1, .int .i64 p.f2] 81); first | exact h_ | (simp only [World.size_alloc] at h_; exact h_))
 have mB : Below w.heap.size w (((((w.alloc (.cells #[.int .i64 s.nx, .int .i64 s.ny, .int .i64 s.cell, .int .i64 s.slot, .int .i64 s.slots, .int .i64 s.layers, .int .i64 s.most, .slice A7 s.shores.length c7, .slice A8 s.currents.length c8] 25)).alloc (.cells #[.int .i64 v.speed, .int .i64 v.dive, .int .i64 v.use.f0, .int .i64 v.use.f1, .int .i64 v.drift.f0, .int .i64 v.drift.f1, .int .i64 v.reserve] 29)).alloc (.cells #[.int .i64 x.f0.f0, .int .i64 x.f0.f1, .int .i64 x.f1.f0, .int .i64 x.f1.f1] 31)).alloc (.cells #[.int .i64 ev.f0, .int .i64 ev.f1] 27)).alloc (.cells #[.int .i64 p.f0.f0.f0, .int .i64 p.f0.f0.f1, .int .i64 p.f0.f1.f0, .int .i64 p.f0.f1.f1, .int .i64 p.f1, .int .i64 p.f2] 81)) := (below_alloc (below_alloc (below_alloc (below_alloc (below_alloc (Below.refl w.heap.size w) _) _) _) _) _)
 have hsz_ : w.heap.size ≤ w.heap.size := Nat.le_refl _
 generalize hW_ : (((((w.alloc (.cells #[.int .i64 s.nx, .int .i64 s.ny, .int .i64 s.cell, .int .i64 s.slot, .int .i64 s.slots, .int .i64 s.layers, .int .i64 s.most, .slice A7 s.shores.length c7, .slice A8 s.currents.length c8] 25)).alloc (.cells #[.int .i64 v.speed, .int .i64 v.dive, .int .i64 v.use.f0, .int .i64 v.use.f1, .int .i64 v.drift.f0, .int .i64 v.drift.f1, .int .i64 v.reserve] 29)).alloc (.cells #[.int .i64 x.f0.f0, .int .i64 x.f0.f1, .int .i64 x.f1.f0, .int .i64 x.f1.f1] 31)).alloc (.cells #[.int .i64 ev.f0, .int .i64 ev.f1] 27)).alloc (.cells #[.int .i64 p.f0.f0.f0, .int .i64 p.f0.f0.f1, .int .i64 p.f0.f1.f0, .int .i64 p.f0.f1.f1, .int .i64 p.f1, .int .i64 p.f2] 81)) = W1 at m7 m8 m9 m11 m12 mB ⊢
 clear hW_
 generalize hg7 : w.heap.size = g7 at m7 m8 m9 m11 m12 ⊢
 have hG7 : w.heap.size ≤ g7 := by omega
 generalize hg8 : g7 + 1 = g8 at m8 m9 m11 m12 ⊢
 have hn_7_8 : g7 ≠ g8 := by omega
 have hn_8_7 : g8 ≠ g7 := hn_7_8.symm
 have hG8 : w.heap.size ≤ g8 := by omega
 generalize hg9 : g8 + 1 = g9 at m9 m11 m12 ⊢
 have hn_7_9 : g7 ≠ g9 := by omega
 have hn_8_9 : g8 ≠ g9 := by omega
 have hn_9_7 : g9 ≠ g7 := hn_7_9.symm
 have hn_9_8 : g9 ≠ g8 := hn_8_9.symm
 have hG9 : w.heap.size ≤ g9 := by omega
 generalize hg11 : g9 + 1 = g11 at m11 m12 ⊢
 have hn_7_11 : g7 ≠ g11 := by omega
 have hn_8_11 : g8 ≠ g11 := by omega
 have hn_9_11 : g9 ≠ g11 := by omega
 have hn_11_7 : g11 ≠ g7 := hn_7_11.symm
 have hn_11_8 : g11 ≠ g8 := hn_8_11.symm
 have hn_11_9 : g11 ≠ g9 := hn_9_11.symm
 have hG11 : w.heap.size ≤ g11 := by omega
 generalize hg12 : g11 + 1 = g12 at m12 ⊢
 have hn_7_12 : g7 ≠ g12 := by omega
 have hn_8_12 : g8 ≠ g12 := by omega
 have hn_9_12 : g9 ≠ g12 := by omega
 have hn_11_12 : g11 ≠ g12 := by omega
 have hn_12_7 : g12 ≠ g7 := hn_7_12.symm
 have hn_12_8 : g12 ≠ g8 := hn_8_12.symm
 have hn_12_9 : g12 ≠ g9 := hn_9_12.symm
 have hn_12_11 : g12 ≠ g11 := hn_11_12.symm
 have hG12 : w.heap.size ≤ g12 := by omega
 clear hsz_
 try clear hg12
 try clear hg11
 try clear hg9
 try clear hg8
 try clear hg7
 have hs_W1 : w.heap.size ≤ W1.heap.size := mB.size
 skip
 have hl_7 := blk_lt m7
 have hl_8 := blk_lt m8
 have hl_9 := blk_lt m9
 have hl_11 := blk_lt m11
 have hl_12 := blk_lt m12
 obtain ⟨c7_0, c7_1, c7_2, c7_3, c7_4, c7_5, c7_6, c7_7, c7_8⟩ := zcs9 m7
 obtain ⟨c8_0, c8_1, c8_2, c8_3, c8_4, c8_5, c8_6⟩ := zcs7 m8
 obtain ⟨c9_0, c9_1, c9_2, c9_3⟩ := zcs4 m9
 go_wp2_with fail
 clear c7_0 c7_1 c7_2 c7_3 c7_4 c7_5 c7_6 c7_7 c7_8 c8_0 c8_1 c8_2 c8_3 c8_4 c8_5 c8_6 c9_0 c9_1 c9_2 c9_3
 skip
 have hcon := begin_any2 s v x t A7 A8 c7 c8 w W1 mB h7 hC7 h8 hC8
 (with_reducible refine hcon.mono ?_)
 clear hcon
 rintro e W2 ⟨ptr, rfl, hb, hpt⟩
 replace m7 := blk_below m7 hb
 replace m8 := blk_below m8 hb
 replace m9 := blk_below m9 hb
 replace m11 := blk_below m11 hb
 replace m12 := blk_below m12 hb
 replace mB := below_step mB hb
 clear hb
 have hs_W2 : w.heap.size ≤ W2.heap.size := mB.size
 generalize hE_ : beginE s v x t = E0 at *
 have HE0 := Lib.hid hE_
 clear hE_
 by_cases h0 : E0 = 0
 case neg =>
  have HZ := Lib.hid (HX.out.trans (if_pos h0))
  have hd1 : (E0 == 0) = false := beq_eq_false_iff_ne.2 h0
  have hd2 : (E0 != 0) = true := by rw [bne, hd1]; rfl
  have HH0 := Lib.hid h0
  clear h0 hpt HX
  have HR := Lib.hid (HERR.out _ HZ.out HH0.out)
  go_wp2
  go_ret3
  exact ⟨_, zq10, zq56, zq57⟩
 case pos =>
  have HX2 := Lib.hid (HX.out.trans (if_neg (fun h => h h0)))
  clear HX
  have hb0 := HBG.out.symm.trans h0
  obtain ⟨ht0, hp0⟩ := ite_ne_zero hb0
  obtain ⟨hbx, htt0, htt1⟩ := place_ok hp0
  obtain ⟨hSV, hVN⟩ := tripE_ok ht0
  have HVB := Lib.hid (tripE_veh ht0)
  rcases hpt with ⟨_, g, rfl, hg, hT, hTT⟩ | ⟨hbad, _⟩
  case inr => exact absurd ht0 hbad
  case inl =>
   subst h0
   clear hb0 ht0 hp0 HBG
   have HTT := Lib.hid (And.intro htt0 htt1)
   clear htt0 htt1
   obtain ⟨B7, d7, B8, d8, mT, _⟩ := hT
   have hTA : ∀ W', Below w.heap.size w W' → Blk W' g #[.int .i64 s.nx, .int .i64 s.ny, .int .i64 s.cell, .int .i64 s.slot, .int .i64 s.slots, .int .i64 s.layers, .int .i64 s.most, .slice B7 s.shores.length d7, .slice B8 s.currents.length d8, .int .i64 v.speed, .int .i64 v.dive, .int .i64 v.use.f0, .int .i64 v.use.f1, .int .i64 v.drift.f0, .int .i64 v.drift.f1, .int .i64 v.reserve] 110 → TripAt W' g s v := fun W' h1 h2 => hTT W' h1 (h2.trans mT.symm)
   have HTA := Lib.hid hTA
   clear hTA hTT
   have hn_T_7 : g ≠ g7 := by omega
   have hn_7_T := hn_T_7.symm
   have hn_T_8 : g ≠ g8 := by omega
   have hn_8_T := hn_T_8.symm
   have hn_T_9 : g ≠ g9 := by omega
   have hn_9_T := hn_T_9.symm
   have hn_T_11 : g ≠ g11 := by omega
   have hn_11_T := hn_T_11.symm
   have hn_T_12 : g ≠ g12 := by omega
   have hn_12_T := hn_T_12.symm
   have hGT : w.heap.size ≤ g := by omega
   clear hl_7 hl_8 hl_9 hl_11 hl_12 hg
   skip
   have c11_0 : ∀ o_, (W2.alloc o_).cell? ⟨g11, 0, none⟩ = some (.int .i64 ev.f0) := fun o_ => (blk_cell (blk_alloc m11 o_) 0).trans rfl
   have c11_1 : ∀ o_, (W2.alloc o_).cell? ⟨g11, 1, none⟩ = some (.int .i64 ev.f1) := fun o_ => (blk_cell (blk_alloc m11 o_) 1).trans rfl
   go_wp2_with fail
   clear c11_0 c11_1
   skip
   have hl_7 := blk_lt m7
   have hl_8 := blk_lt m8
   have hl_9 := blk_lt m9
   have hl_11 := blk_lt m11
   have hl_12 := blk_lt m12
   have hl_T := blk_lt mT
   have m17 : Blk (W2.alloc (.cells #[.pointer (some ⟨g, 0, none⟩)] 104)) (W2.heap.size) #[.pointer (some ⟨g, 0, none⟩)] 104 := (by have h_ := blk_new W2 (.cells #[.pointer (some ⟨g, 0, none⟩)] 104); first | exact h_ | (simp only [World.size_alloc] at h_; exact h_))
   replace m7 : Blk (W2.alloc (.cells #[.pointer (some ⟨g, 0, none⟩)] 104)) g7 #[.int .i64 s.nx, .int .i64 s.ny, .int .i64 s.cell, .int .i64 s.slot, .int .i64 s.slots, .int .i64 s.layers, .int .i64 s.most, .slice A7 s.shores.length c7, .slice A8 s.currents.length c8] 25 := (blk_alloc m7 _)
   replace m8 : Blk (W2.alloc (.cells #[.pointer (some ⟨g, 0, none⟩)] 104)) g8 #[.int .i64 v.speed, .int .i64 v.dive, .int .i64 v.use.f0, .int .i64 v.use.f1, .int .i64 v.drift.f0, .int .i64 v.drift.f1, .int .i64 v.reserve] 29 := (blk_alloc m8 _)
   replace m9 : Blk (W2.alloc (.cells #[.pointer (some ⟨g, 0, none⟩)] 104)) g9 #[.int .i64 x.f0.f0, .int .i64 x.f0.f1, .int .i64 x.f1.f0, .int .i64 x.f1.f1] 31 := (blk_alloc m9 _)
   replace m11 : Blk (W2.alloc (.cells #[.pointer (some ⟨g, 0, none⟩)] 104)) g11 #[.int .i64 ev.f0, .int .i64 ev.f1] 27 := (blk_alloc m11 _)
   replace m12 : Blk (W2.alloc (.cells #[.pointer (some ⟨g, 0, none⟩)] 104)) g12 #[.int .i64 p.f0.f0.f0, .int .i64 p.f0.f0.f1, .int .i64 p.f0.f1.f0, .int .i64 p.f0.f1.f1, .int .i64 p.f1, .int .i64 p.f2] 81 := (blk_alloc m12 _)
   replace mT : Blk (W2.alloc (.cells #[.pointer (some ⟨g, 0, none⟩)] 104)) g #[.int .i64 s.nx, .int .i64 s.ny, .int .i64 s.cell, .int .i64 s.slot, .int .i64 s.slots, .int .i64 s.layers, .int .i64 s.most, .slice B7 s.shores.length d7, .slice B8 s.currents.length d8, .int .i64 v.speed, .int .i64 v.dive, .int .i64 v.use.f0, .int .i64 v.use.f1, .int .i64 v.drift.f0, .int .i64 v.drift.f1, .int .i64 v.reserve] 110 := (blk_alloc mT _)
   replace mB : Below w.heap.size w (W2.alloc (.cells #[.pointer (some ⟨g, 0, none⟩)] 104)) := (below_alloc mB _)
   have hsz_ : w.heap.size ≤ W2.heap.size := hs_W2
   generalize hW_ : (W2.alloc (.cells #[.pointer (some ⟨g, 0, none⟩)] 104)) = W3 at m7 m8 m9 m11 m12 mT m17 mB ⊢
   clear hW_
   generalize hg17 : W2.heap.size = g17 at m17 ⊢
   have hn_7_17 : g7 ≠ g17 := by omega
   have hn_8_17 : g8 ≠ g17 := by omega
   have hn_9_17 : g9 ≠ g17 := by omega
   have hn_11_17 : g11 ≠ g17 := by omega
   have hn_12_17 : g12 ≠ g17 := by omega
   have hn_T_17 : g ≠ g17 := by omega
   have hn_17_7 : g17 ≠ g7 := hn_7_17.symm
   have hn_17_8 : g17 ≠ g8 := hn_8_17.symm
   have hn_17_9 : g17 ≠ g9 := hn_9_17.symm
   have hn_17_11 : g17 ≠ g11 := hn_11_17.symm
   have hn_17_12 : g17 ≠ g12 := hn_12_17.symm
   have hn_17_T : g17 ≠ g := hn_T_17.symm
   have hG17 : w.heap.size ≤ g17 := by omega
   clear hsz_ hl_7 hl_8 hl_9 hl_11 hl_12 hl_T
   try clear hg17
   have hs_W3 : w.heap.size ≤ W3.heap.size := mB.size
   have hcon := bnd_any ev.f0 ev.f1 0 1073741824 W3
   (with_reducible refine hcon.mono ?_)
   clear hcon
   rintro e W4 ⟨rfl, hb⟩
   replace m7 := blk_below m7 hb
   replace m8 := blk_below m8 hb
   replace m9 := blk_below m9 hb
   replace m11 := blk_below m11 hb
   replace m12 := blk_below m12 hb
   replace mT := blk_below mT hb
   replace m17 := blk_below m17 hb
   replace mB := below_step mB hb
   clear hb
   have hs_W4 : w.heap.size ≤ W4.heap.size := mB.size
   cases hbn : bndB ev.f0 ev.f1 0 1073741824 with
   | false =>
    have HZ := Lib.hid (HX2.out.trans (if_pos hbn))
    clear hbn HX2
    have HR := Lib.hid (HERR.out _ HZ.out (by decide))
    go_wp2
    go_ret3
    exact ⟨_, zq10, zq56, zq57⟩
   | true =>
    have HX3 := Lib.hid (HX2.out.trans (if_neg (by rw [hbn]; decide)))
    have HBN := Lib.hid (bndB_iff.1 hbn)
    clear HX2 hbn
    obtain ⟨c12_0, c12_1, c12_2, c12_3, c12_4, c12_5⟩ := zcs6 m12
    go_wp2_with fail
    clear c12_0 c12_1 c12_2 c12_3 c12_4 c12_5
    skip
    have hcon := glider_validPickup.calls 4 p.f0.f0.f0 p.f0.f0.f1 p.f0.f1.f0 p.f0.f1.f1 p.f1 p.f2 _ W4 (pick_some p)
    (with_reducible refine hcon.mono ?_)
    clear hcon
    rintro e W5 ⟨rfl, hb⟩
    replace m7 := blk_below m7 hb
    replace m8 := blk_below m8 hb
    replace m9 := blk_below m9 hb
    replace m11 := blk_below m11 hb
    replace m12 := blk_below m12 hb
    replace mT := blk_below mT hb
    replace m17 := blk_below m17 hb
    replace mB := below_step mB hb
    clear hb
    have hs_W5 : w.heap.size ≤ W5.heap.size := mB.size
    cases hpk : pickB p with
    | false =>
     have HZ := Lib.hid (HX3.out.trans (if_pos hpk))
     clear hpk HX3
     have HR := Lib.hid (HERR.out _ HZ.out (by decide))
     go_wp2
     go_ret3
     exact ⟨_, zq10, zq56, zq57⟩
    | true =>
     have HX4 := Lib.hid (HX3.out.trans (if_neg (by rw [hpk]; decide)))
     clear HX3 hpk
     by_cases c1 : d < 1
     case pos =>
      have HZ := Lib.hid (HX4.out.trans (if_pos c1))
      have k1 : decide (d < 1) = true := decide_eq_true c1
      clear c1 HX4
      have HR := Lib.hid (HERR.out _ HZ.out (by decide))
      go_wp2
      go_ret3
      exact ⟨_, zq10, zq56, zq57⟩
     case neg =>
      have HX5 := Lib.hid (HX4.out.trans (if_neg c1))
      clear HX4
      have k1 : decide (d < 1) = false := decide_eq_false c1
      by_cases c2 : 3 < d
      case pos =>
       have HZ := Lib.hid (HX5.out.trans (if_pos c2))
       have k2 : decide (3 < d) = true := decide_eq_true c2
       clear c1 c2 HX5
       have HR := Lib.hid (HERR.out _ HZ.out (by decide))
       go_wp2
       go_ret3
       exact ⟨_, zq10, zq56, zq57⟩
      case neg =>
       have HX6 := Lib.hid (HX5.out.trans (if_neg c2))
       clear HX5
       have k2 : decide (3 < d) = false := decide_eq_false c2
       skip
       go_upto_region 11 with fail
       skip
       clear k1 k2
       have hl_7 := blk_lt m7
       have hl_8 := blk_lt m8
       have hl_9 := blk_lt m9
       have hl_11 := blk_lt m11
       have hl_12 := blk_lt m12
       have hl_T := blk_lt mT
       have hl_17 := blk_lt m17
       have m19 : Blk (((W5.alloc (.cells #[.slice none 0 0] 49)).alloc (.cells #[.int .i64 (-1)] 2)).alloc (.cells #[.nilFunc] 141)) (W5.heap.size) #[.slice none 0 0] 49 := (blk_alloc (blk_alloc (by have h_ := blk_new W5 (.cells #[.slice none 0 0] 49); first | exact h_ | (simp only [World.size_alloc] at h_; exact h_)) _) _)
       have m20 : Blk (((W5.alloc (.cells #[.slice none 0 0] 49)).alloc (.cells #[.int .i64 (-1)] 2)).alloc (.cells #[.nilFunc] 141)) (W5.heap.size + 1) #[.int .i64 (-1)] 2 := (blk_alloc (by have h_ := blk_new (W5.alloc (.cells #[.slice none 0 0] 49)) (.cells #[.int .i64 (-1)] 2); first | exact h_ | (simp only [World.size_alloc] at h_; exact h_)) _)
       have m21 : Blk (((W5.alloc (.cells #[.slice none 0 0] 49)).alloc (.cells #[.int .i64 (-1)] 2)).alloc (.cells #[.nilFunc] 141)) (W5.heap.size + 1 + 1) #[.nilFunc] 141 := (by have h_ := blk_new ((W5.alloc (.cells #[.slice none 0 0] 49)).alloc (.cells #[.int .i64 (-1)] 2)) (.cells #[.nilFunc] 141); first | exact h_ | (simp only [World.size_alloc] at h_; exact h_))
       replace m7 : Blk (((W5.alloc (.cells #[.slice none 0 0] 49)).alloc (.cells #[.int .i64 (-1)] 2)).alloc (.cells #[.nilFunc] 141)) g7 #[.int .i64 s.nx, .int .i64 s.ny, .int .i64 s.cell, .int .i64 s.slot, .int .i64 s.slots, .int .i64 s.layers, .int .i64 s.most, .slice A7 s.shores.length c7, .slice A8 s.currents.length c8] 25 := (blk_alloc (blk_alloc (blk_alloc m7 _) _) _)
       replace m8 : Blk (((W5.alloc (.cells #[.slice none 0 0] 49)).alloc (.cells #[.int .i64 (-1)] 2)).alloc (.cells #[.nilFunc] 141)) g8 #[.int .i64 v.speed, .int .i64 v.dive, .int .i64 v.use.f0, .int .i64 v.use.f1, .int .i64 v.drift.f0, .int .i64 v.drift.f1, .int .i64 v.reserve] 29 := (blk_alloc (blk_alloc (blk_alloc m8 _) _) _)
       replace m9 : Blk (((W5.alloc (.cells #[.slice none 0 0] 49)).alloc (.cells #[.int .i64 (-1)] 2)).alloc (.cells #[.nilFunc] 141)) g9 #[.int .i64 x.f0.f0, .int .i64 x.f0.f1, .int .i64 x.f1.f0, .int .i64 x.f1.f1] 31 := (blk_alloc (blk_alloc (blk_alloc m9 _) _) _)
       replace m11 : Blk (((W5.alloc (.cells #[.slice none 0 0] 49)).alloc (.cells #[.int .i64 (-1)] 2)).alloc (.cells #[.nilFunc] 141)) g11 #[.int .i64 ev.f0, .int .i64 ev.f1] 27 := (blk_alloc (blk_alloc (blk_alloc m11 _) _) _)
       replace m12 : Blk (((W5.alloc (.cells #[.slice none 0 0] 49)).alloc (.cells #[.int .i64 (-1)] 2)).alloc (.cells #[.nilFunc] 141)) g12 #[.int .i64 p.f0.f0.f0, .int .i64 p.f0.f0.f1, .int .i64 p.f0.f1.f0, .int .i64 p.f0.f1.f1, .int .i64 p.f1, .int .i64 p.f2] 81 := (blk_alloc (blk_alloc (blk_alloc m12 _) _) _)
       replace mT : Blk (((W5.alloc (.cells #[.slice none 0 0] 49)).alloc (.cells #[.int .i64 (-1)] 2)).alloc (.cells #[.nilFunc] 141)) g #[.int .i64 s.nx, .int .i64 s.ny, .int .i64 s.cell, .int .i64 s.slot, .int .i64 s.slots, .int .i64 s.layers, .int .i64 s.most, .slice B7 s.shores.length d7, .slice B8 s.currents.length d8, .int .i64 v.speed, .int .i64 v.dive, .int .i64 v.use.f0, .int .i64 v.use.f1, .int .i64 v.drift.f0, .int .i64 v.drift.f1, .int .i64 v.reserve] 110 := (blk_alloc (blk_alloc (blk_alloc mT _) _) _)
       replace m17 : Blk (((W5.alloc (.cells #[.slice none 0 0] 49)).alloc (.cells #[.int .i64 (-1)] 2)).alloc (.cells #[.nilFunc] 141)) g17 #[.pointer (some ⟨g, 0, none⟩)] 104 := (blk_alloc (blk_alloc (blk_alloc m17 _) _) _)
       replace mB : Below w.heap.size w (((W5.alloc (.cells #[.slice none 0 0] 49)).alloc (.cells #[.int .i64 (-1)] 2)).alloc (.cells #[.nilFunc] 141)) := (below_alloc (below_alloc (below_alloc mB _) _) _)
       have hsz_ : w.heap.size ≤ W5.heap.size := hs_W5
       generalize hW_ : (((W5.alloc (.cells #[.slice none 0 0] 49)).alloc (.cells #[.int .i64 (-1)] 2)).alloc (.cells #[.nilFunc] 141)) = W6 at m7 m8 m9 m11 m12 mT m17 m19 m20 m21 mB ⊢
       clear hW_
       generalize hg19 : W5.heap.size = g19 at m19 m20 m21 ⊢
       have hn_7_19 : g7 ≠ g19 := by omega
       have hn_8_19 : g8 ≠ g19 := by omega
       have hn_9_19 : g9 ≠ g19 := by omega
       have hn_11_19 : g11 ≠ g19 := by omega
       have hn_12_19 : g12 ≠ g19 := by omega
       have hn_T_19 : g ≠ g19 := by omega
       have hn_17_19 : g17 ≠ g19 := by omega
       have hn_19_7 : g19 ≠ g7 := hn_7_19.symm
       have hn_19_8 : g19 ≠ g8 := hn_8_19.symm
       have hn_19_9 : g19 ≠ g9 := hn_9_19.symm
       have hn_19_11 : g19 ≠ g11 := hn_11_19.symm
       have hn_19_12 : g19 ≠ g12 := hn_12_19.symm
       have hn_19_T : g19 ≠ g := hn_T_19.symm
       have hn_19_17 : g19 ≠ g17 := hn_17_19.symm
       have hG19 : w.heap.size ≤ g19 := by omega
       generalize hg20 : g19 + 1 = g20 at m20 m21 ⊢
       have hn_7_20 : g7 ≠ g20 := by omega
       have hn_8_20 : g8 ≠ g20 := by omega
       have hn_9_20 : g9 ≠ g20 := by omega
       have hn_11_20 : g11 ≠ g20 := by omega
       have hn_12_20 : g12 ≠ g20 := by omega
       have hn_T_20 : g ≠ g20 := by omega
       have hn_17_20 : g17 ≠ g20 := by omega
       have hn_19_20 : g19 ≠ g20 := by omega
       have hn_20_7 : g20 ≠ g7 := hn_7_20.symm
       have hn_20_8 : g20 ≠ g8 := hn_8_20.symm
       have hn_20_9 : g20 ≠ g9 := hn_9_20.symm
       have hn_20_11 : g20 ≠ g11 := hn_11_20.symm
       have hn_20_12 : g20 ≠ g12 := hn_12_20.symm
       have hn_20_T : g20 ≠ g := hn_T_20.symm
       have hn_20_17 : g20 ≠ g17 := hn_17_20.symm
       have hn_20_19 : g20 ≠ g19 := hn_19_20.symm
       have hG20 : w.heap.size ≤ g20 := by omega
       generalize hg21 : g20 + 1 = g21 at m21 ⊢
       have hn_7_21 : g7 ≠ g21 := by omega
       have hn_8_21 : g8 ≠ g21 := by omega
       have hn_9_21 : g9 ≠ g21 := by omega
       have hn_11_21 : g11 ≠ g21 := by omega
       have hn_12_21 : g12 ≠ g21 := by omega
       have hn_T_21 : g ≠ g21 := by omega
       have hn_17_21 : g17 ≠ g21 := by omega
       have hn_19_21 : g19 ≠ g21 := by omega
       have hn_20_21 : g20 ≠ g21 := by omega
       have hn_21_7 : g21 ≠ g7 := hn_7_21.symm
       have hn_21_8 : g21 ≠ g8 := hn_8_21.symm
       have hn_21_9 : g21 ≠ g9 := hn_9_21.symm
       have hn_21_11 : g21 ≠ g11 := hn_11_21.symm
       have hn_21_12 : g21 ≠ g12 := hn_12_21.symm
       have hn_21_T : g21 ≠ g := hn_T_21.symm
       have hn_21_17 : g21 ≠ g17 := hn_17_21.symm
       have hn_21_19 : g21 ≠ g19 := hn_19_21.symm
       have hn_21_20 : g21 ≠ g20 := hn_20_21.symm
       have hG21 : w.heap.size ≤ g21 := by omega
       clear hsz_ hl_7 hl_8 hl_9 hl_11 hl_12 hl_T hl_17
       try clear hg21
       try clear hg20
       try clear hg19
       have hs_W6 : w.heap.size ≤ W6.heap.size := mB.size
       have hLN : g20 ≠ g19 := hn_20_19
       have h21 : g8 ≠ g21 ∧ g9 ≠ g21 ∧ g11 ≠ g21 ∧ g12 ≠ g21 ∧ g ≠ g21 ∧ g17 ≠ g21 ∧ g19 ≠ g21 ∧ g20 ≠ g21 := ⟨hn_8_21, hn_9_21, hn_11_21, hn_12_21, hn_T_21, hn_17_21, hn_19_21, hn_20_21⟩
       clear m7
       try clear hn_8_9 hn_8_11 hn_8_12
       try clear hn_8_T
       try clear hn_8_17 hn_8_19 hn_8_20 hn_8_21
       try clear hn_9_8 hn_9_11 hn_9_12
       try clear hn_9_T
       try clear hn_9_17 hn_9_19 hn_9_20 hn_9_21
       try clear hn_11_8 hn_11_9 hn_11_12
       try clear hn_11_T
       try clear hn_11_17 hn_11_19 hn_11_20 hn_11_21
       try clear hn_12_8 hn_12_9 hn_12_11
       try clear hn_12_T
       try clear hn_12_17 hn_12_19 hn_12_20 hn_12_21
       try clear hn_T_8 hn_T_9 hn_T_11 hn_T_12 hn_T_17 hn_T_19 hn_T_20 hn_T_21
       try clear hn_17_8 hn_17_9 hn_17_11 hn_17_12
       try clear hn_17_T
       try clear hn_17_19 hn_17_20 hn_17_21
       try clear hn_19_8 hn_19_9 hn_19_11 hn_19_12
       try clear hn_19_T
       try clear hn_19_17 hn_19_20 hn_19_21
       try clear hn_20_8 hn_20_9 hn_20_11 hn_20_12
       try clear hn_20_T
       try clear hn_20_17 hn_20_19 hn_20_21
       try clear hn_21_8 hn_21_9 hn_21_11 hn_21_12
       try clear hn_21_T
       try clear hn_21_17 hn_21_19 hn_21_20
       try clear hn_7_8 hn_8_7
       try clear hn_7_9 hn_9_7
       try clear hn_7_11 hn_11_7
       try clear hn_7_12 hn_12_7
       try clear hn_7_T hn_T_7
       try clear hn_7_17 hn_17_7
       try clear hn_7_19 hn_19_7
       try clear hn_7_20 hn_20_7
       try clear hn_7_21 hn_21_7
       have c21_0 := (blk_cell m21 0).trans rfl
       have f21_0 := blk_frozen m21 0
       skip
       go_upto_region 12 with fail
       skip
       obtain ⟨hx_8, hx_9, hx_11, hx_12, hx_T, hx_17, hx_19, hx_20⟩ := h21
       have n8 : Blk (W6.setCell ⟨g21, 0, none⟩ (.func (.func 107) #[] #[.pointer (some ⟨g20, 0, none⟩), .pointer (some ⟨g19, 0, none⟩), .pointer (some ⟨g17, 0, none⟩), .pointer (some ⟨g8, 0, none⟩), .pointer (some ⟨g12, 0, none⟩), .pointer (some ⟨g21, 0, none⟩)])) g8 #[.int .i64 v.speed, .int .i64 v.dive, .int .i64 v.use.f0, .int .i64 v.use.f1, .int .i64 v.drift.f0, .int .i64 v.drift.f1, .int .i64 v.reserve] 29 := blk_far (p := ⟨g21, 0, none⟩) m8 hx_8 _
       have n9 : Blk (W6.setCell ⟨g21, 0, none⟩ (.func (.func 107) #[] #[.pointer (some ⟨g20, 0, none⟩), .pointer (some ⟨g19, 0, none⟩), .pointer (some ⟨g17, 0, none⟩), .pointer (some ⟨g8, 0, none⟩), .pointer (some ⟨g12, 0, none⟩), .pointer (some ⟨g21, 0, none⟩)])) g9 #[.int .i64 x.f0.f0, .int .i64 x.f0.f1, .int .i64 x.f1.f0, .int .i64 x.f1.f1] 31 := blk_far (p := ⟨g21, 0, none⟩) m9 hx_9 _
       have n11 : Blk (W6.setCell ⟨g21, 0, none⟩ (.func (.func 107) #[] #[.pointer (some ⟨g20, 0, none⟩), .pointer (some ⟨g19, 0, none⟩), .pointer (some ⟨g17, 0, none⟩), .pointer (some ⟨g8, 0, none⟩), .pointer (some ⟨g12, 0, none⟩), .pointer (some ⟨g21, 0, none⟩)])) g11 #[.int .i64 ev.f0, .int .i64 ev.f1] 27 := blk_far (p := ⟨g21, 0, none⟩) m11 hx_11 _
       have n12 : Blk (W6.setCell ⟨g21, 0, none⟩ (.func (.func 107) #[] #[.pointer (some ⟨g20, 0, none⟩), .pointer (some ⟨g19, 0, none⟩), .pointer (some ⟨g17, 0, none⟩), .pointer (some ⟨g8, 0, none⟩), .pointer (some ⟨g12, 0, none⟩), .pointer (some ⟨g21, 0, none⟩)])) g12 #[.int .i64 p.f0.f0.f0, .int .i64 p.f0.f0.f1, .int .i64 p.f0.f1.f0, .int .i64 p.f0.f1.f1, .int .i64 p.f1, .int .i64 p.f2] 81 := blk_far (p := ⟨g21, 0, none⟩) m12 hx_12 _
       have nT : Blk (W6.setCell ⟨g21, 0, none⟩ (.func (.func 107) #[] #[.pointer (some ⟨g20, 0, none⟩), .pointer (some ⟨g19, 0, none⟩), .pointer (some ⟨g17, 0, none⟩), .pointer (some ⟨g8, 0, none⟩), .pointer (some ⟨g12, 0, none⟩), .pointer (some ⟨g21, 0, none⟩)])) g #[.int .i64 s.nx, .int .i64 s.ny, .int .i64 s.cell, .int .i64 s.slot, .int .i64 s.slots, .int .i64 s.layers, .int .i64 s.most, .slice B7 s.shores.length d7, .slice B8 s.currents.length d8, .int .i64 v.speed, .int .i64 v.dive, .int .i64 v.use.f0, .int .i64 v.use.f1, .int .i64 v.drift.f0, .int .i64 v.drift.f1, .int .i64 v.reserve] 110 := blk_far (p := ⟨g21, 0, none⟩) mT hx_T _
       have n17 : Blk (W6.setCell ⟨g21, 0, none⟩ (.func (.func 107) #[] #[.pointer (some ⟨g20, 0, none⟩), .pointer (some ⟨g19, 0, none⟩), .pointer (some ⟨g17, 0, none⟩), .pointer (some ⟨g8, 0, none⟩), .pointer (some ⟨g12, 0, none⟩), .pointer (some ⟨g21, 0, none⟩)])) g17 #[.pointer (some ⟨g, 0, none⟩)] 104 := blk_far (p := ⟨g21, 0, none⟩) m17 hx_17 _
       have n19 : Blk (W6.setCell ⟨g21, 0, none⟩ (.func (.func 107) #[] #[.pointer (some ⟨g20, 0, none⟩), .pointer (some ⟨g19, 0, none⟩), .pointer (some ⟨g17, 0, none⟩), .pointer (some ⟨g8, 0, none⟩), .pointer (some ⟨g12, 0, none⟩), .pointer (some ⟨g21, 0, none⟩)])) g19 #[.slice none 0 0] 49 := blk_far (p := ⟨g21, 0, none⟩) m19 hx_19 _
       have n20 : Blk (W6.setCell ⟨g21, 0, none⟩ (.func (.func 107) #[] #[.pointer (some ⟨g20, 0, none⟩), .pointer (some ⟨g19, 0, none⟩), .pointer (some ⟨g17, 0, none⟩), .pointer (some ⟨g8, 0, none⟩), .pointer (some ⟨g12, 0, none⟩), .pointer (some ⟨g21, 0, none⟩)])) g20 #[.int .i64 (-1)] 2 := blk_far (p := ⟨g21, 0, none⟩) m20 hx_20 _
       have n21 : Blk (W6.setCell ⟨g21, 0, none⟩ (.func (.func 107) #[] #[.pointer (some ⟨g20, 0, none⟩), .pointer (some ⟨g19, 0, none⟩), .pointer (some ⟨g17, 0, none⟩), .pointer (some ⟨g8, 0, none⟩), .pointer (some ⟨g12, 0, none⟩), .pointer (some ⟨g21, 0, none⟩)])) g21 #[.func (.func 107) #[] #[.pointer (some ⟨g20, 0, none⟩), .pointer (some ⟨g19, 0, none⟩), .pointer (some ⟨g17, 0, none⟩), .pointer (some ⟨g8, 0, none⟩), .pointer (some ⟨g12, 0, none⟩), .pointer (some ⟨g21, 0, none⟩)]] 141 := blk_put m21 0 _ rfl
       have nB : Below w.heap.size w (W6.setCell ⟨g21, 0, none⟩ (.func (.func 107) #[] #[.pointer (some ⟨g20, 0, none⟩), .pointer (some ⟨g19, 0, none⟩), .pointer (some ⟨g17, 0, none⟩), .pointer (some ⟨g8, 0, none⟩), .pointer (some ⟨g12, 0, none⟩), .pointer (some ⟨g21, 0, none⟩)])) := Below.setCell (p := ⟨g21, 0, none⟩) mB hG21 _
       clear c21_0 f21_0 mB m8 hx_8 m9 hx_9 m11 hx_11 m12 hx_12 mT hx_T m17 hx_17 m19 hx_19 m20 hx_20 m21
       generalize hW_ : (W6.setCell ⟨g21, 0, none⟩ (.func (.func 107) #[] #[.pointer (some ⟨g20, 0, none⟩), .pointer (some ⟨g19, 0, none⟩), .pointer (some ⟨g17, 0, none⟩), .pointer (some ⟨g8, 0, none⟩), .pointer (some ⟨g12, 0, none⟩), .pointer (some ⟨g21, 0, none⟩)])) = W7 at n8 n9 n11 n12 nT n17 n19 n20 n21 nB ⊢
       clear hW_
       have m8 := n8
       clear n8
       have m9 := n9
       clear n9
       have m11 := n11
       clear n11
       have m12 := n12
       clear n12
       have mT := nT
       clear nT
       have m17 := n17
       clear n17
       have m19 := n19
       clear n19
       have m20 := n20
       clear n20
       have m21 := n21
       clear n21
       have mB := nB
       clear nB
       have hs_W7 : w.heap.size ≤ W7.heap.size := mB.size
       have kG := fun n => grow_all w s v p g g17 g8 g12 g21 g20 g19 B7 B8 d7 d8 (fun W' h1 h2 => HTA.out W' h1 h2) hSV hVN HVB.out hG20 hG19 n
       have HC : CoAt W7 w.heap.size (.slice none 0 0) [] := CoAt.nil _ _
       have HD : Hid (1 ≤ d ∧ d ≤ 3) := Lib.hid (by omega)
       have HEV : Hid (0 ≤ ev.f0 ∧ ev.f0 ≤ 1073741824) := Lib.hid (by have h_ := HBN.out; omega)
       skip
       go_wp2
       skip
       go_loopw [22] (fun i wr => ∃ (k : Nat) (bv : Value), i = .int .i64 ((k : Int) + 1) ∧ (k : Int) ≤ d ∧ EnvZ w s v p g g17 g8 g12 g21 g20 g19 B7 B8 d7 d8 wr ∧ BestAt w g20 g19 bv (bestV s v p x t ev k) wr ∧ Blk wr g9 #[.int .i64 x.f0.f0, .int .i64 x.f0.f1, .int .i64 x.f1.f0, .int .i64 x.f1.f1] 31 ∧ Blk wr g11 #[.int .i64 ev.f0, .int .i64 ev.f1] 27) (fun i _ => (d + 1 - intOf i).toNat)
       case atStart => exact ⟨0, _, rfl, by omega, ⟨mB, mT, m17, m8, m12, m21⟩, ⟨m20, m19, HC⟩, m9, m11⟩
       case round =>
        clear m8 m9 m11 m12 mT m17 m19 m20 m21 mB HC hs_W7
        obtain ⟨k, bv, rfl, hk, ⟨mB, mT, m17, m8, m12, m21⟩, ⟨m20, m19, HC⟩, m9, m11⟩ := hrel
        have hs_wr : w.heap.size ≤ wr.heap.size := mB.size
        obtain ⟨hd1, hd2⟩ := HD.out
        by_cases hkd : (k : Int) + 1 ≤ d
        case pos =>
         have kl : decide ((k : Int) + 1 ≤ d) = true := decide_eq_true hkd
         have hcon := kG (k + 1) x t ev.f0 0 ((k : Int) + 1) [] false (bestV s v p x t ev k) (.slice none 0 0) bv wr (by omega) (by simp) (by simp; omega) hbx (by have h_ := HTT.out; simp; omega) HEV.out (by simp) ⟨mB, mT, m17, m8, m12, m21⟩ ⟨m20, m19, HC⟩ (CoAt.nil _ _) (fun _ _ he => by cases he)
         rw [← bestV_succ] at hcon
         have c21_0 := (blk_cell m21 0).trans rfl
         obtain ⟨c9_0, c9_1, c9_2, c9_3⟩ := zcs4 m9
         obtain ⟨c11_0, c11_1⟩ := zcs2 m11
         go_wp2_with fail
         skip
         clear c21_0 c9_0 c9_1 c9_2 c9_3 c11_0 c11_1
         (with_reducible refine hcon.mono ?_)
         clear hcon kl
         rintro e W9 ⟨⟨r_, rfl⟩, hk9, hp9, bv9, ha9, _⟩
         have hkp := fun {q : Nat} {cs : Array Value} {ty : TypeId} (hb : Blk wr q cs ty) (h1 : ty ≠ 2) (h2 : ty ≠ 49) => Blk.keepG hk9 hb (blk_ne hb m20 h1) (blk_ne hb m19 h2) (fun e => by cases e)
         have hE9 : EnvZ w s v p g g17 g8 g12 g21 g20 g19 B7 B8 d7 d8 W9 := ⟨mB.trans hk9.1, hkp mT (by decide) (by decide), hkp m17 (by decide) (by decide), hkp m8 (by decide) (by decide), hkp m12 (by decide) (by decide), hkp m21 (by decide) (by decide)⟩
         have m9_ := hkp m9 (by decide) (by decide)
         have m11_ := hkp m11 (by decide) (by decide)
         clear hkp
         go_wp2
         skip
         go_roundw
         case rel => exact ⟨k + 1, bv9, by simp, by omega, hE9, ha9, m9_, m11_⟩
         case measure => simp [intOf]; omega
        case neg =>
         have kl : decide ((k : Int) + 1 ≤ d) = false := decide_eq_false hkd
         obtain rfl : k = d.toNat := by omega
         generalize bestV s v p x t ev d.toNat = R at *
         obtain ⟨R1, R2⟩ := R
         dsimp only at HX6 HOK m20 HC
         clear kG
         obtain ⟨A1_, c1_, rfl⟩ := HC.slice
         have c20_0 := (blk_cell m20 0).trans rfl
         by_cases c3 : R2 < 0
         case pos =>
          have HZ := Lib.hid (HX6.out.trans (if_pos c3))
          have k3 : decide (R2 < 0) = true := decide_eq_true c3
          clear c3 HX6 hkd
          have HR := Lib.hid (HERR.out _ HZ.out (by decide))
          go_wp2
          go_ret3
          exact ⟨_, zq10, zq56, zq57⟩
         case neg =>
          have HZ := Lib.hid (HX6.out.trans (if_neg c3))
          have k3 : decide (R2 < 0) = false := decide_eq_false c3
          clear c3 HX6 hkd
          have HR := Lib.hid (HOK.out HZ.out)
          have c19_0 := (blk_cell m19 0).trans rfl
          go_wp2
          skip
          go_quiet (fail)
          go_wp2
          skip
          go_ret3
          exact ⟨_, zq10, by rw [HR.out]; exact (CoAt.below HC (by repeat (first | exact Below.refl _ _ | apply below_drew1 | apply pw_below_drewN))).toR, zq57⟩
end Go.Proofs.Ytmhaiihjfgfaoaa.Gl
end
section
/- The contract of Best, as the printed texts ask for it. -/
namespace Go.Proofs.Ytmhaiihjfgfaoaa.Pr
open Go.RowKit Go.Proofs.YtmhaiihjfgfaoaaW.PrintWords Go.Proofs.YtmhaiihjfgfaoaaW.PrintLast Go.Proofs.YtmhaiihjfgfaoaaW.PrintMore Go.Proofs.Ytmhaiihjfgfaoaa.Gl
set_option linter.unusedVariables false
def glider_Best.f (a0_0 : Int) (a0_1 : Int) (a0_2 : Int) (a0_3 : Int) (a0_4 : Int) (a0_5 : Int) (a0_6 : Int) (l0_7 : List Bool) (l0_8 : List (S40)) (a1_0 : Int) (a1_1 : Int) (a1_2 : Int) (a1_3 : Int) (a1_4 : Int) (a1_5 : Int) (a1_6 : Int) (a2_0 : Int) (a2_1 : Int) (a2_2 : Int) (a2_3 : Int) (a3 : Int) (a4_0 : Int) (a4_1 : Int) (a5_0 : Int) (a5_1 : Int) (a5_2 : Int) (a5_3 : Int) (a5_4 : Int) (a5_5 : Int) (a6 : Int) : Option ((List (S33)) × Int × Int) := some (BestR ⟨a0_0, a0_1, a0_2, a0_3, a0_4, a0_5, a0_6, l0_7, l0_8⟩ ⟨a1_0, a1_1, ⟨a1_2, a1_3⟩, ⟨a1_4, a1_5⟩, a1_6⟩ ⟨⟨a2_0, a2_1⟩, ⟨a2_2, a2_3⟩⟩ a3 ⟨a4_0, a4_1⟩ ⟨⟨⟨a5_0, a5_1⟩, ⟨a5_2, a5_3⟩⟩, a5_4, a5_5⟩ a6)
theorem glider_Best.calls (a0_0 : Int) (a0_1 : Int) (a0_2 : Int) (a0_3 : Int) (a0_4 : Int) (a0_5 : Int) (a0_6 : Int) (A0_7 : Option Addr) (c0_7 : Nat) (l0_7 : List Bool) (A0_8 : Option Addr) (c0_8 : Nat) (l0_8 : List (S40)) (a1_0 : Int) (a1_1 : Int) (a1_2 : Int) (a1_3 : Int) (a1_4 : Int) (a1_5 : Int) (a1_6 : Int) (a2_0 : Int) (a2_1 : Int) (a2_2 : Int) (a2_3 : Int) (a3 : Int) (a4_0 : Int) (a4_1 : Int) (a5_0 : Int) (a5_1 : Int) (a5_2 : Int) (a5_3 : Int) (a5_4 : Int) (a5_5 : Int) (a6 : Int) (r1 : List (S33)) (r2 : Int) (r3 : Int) (w : World) (hr0_7 : Kd.C Kd.bool w A0_7 l0_7.length l0_7) (hc0_7 : l0_7.length ≤ c0_7) (hr0_8 : Kd.C k40 w A0_8 l0_8.length l0_8) (hc0_8 : l0_8.length ≤ c0_8) (h : glider_Best.f a0_0 a0_1 a0_2 a0_3 a0_4 a0_5 a0_6 l0_7 l0_8 a1_0 a1_1 a1_2 a1_3 a1_4 a1_5 a1_6 a2_0 a2_1 a2_2 a2_3 a3 a4_0 a4_1 a5_0 a5_1 a5_2 a5_3 a5_4 a5_5 a6 = some (r1, r2, r3)) :
  Calls Try.prog 57 #[.agg #[.int .i64 a0_0, .int .i64 a0_1, .int .i64 a0_2, .int .i64 a0_3, .int .i64 a0_4, .int .i64 a0_5, .int .i64 a0_6, .slice A0_7 l0_7.length c0_7, .slice A0_8 l0_8.length c0_8], .agg #[.int .i64 a1_0, .int .i64 a1_1, .int .i64 a1_2, .int .i64 a1_3, .int .i64 a1_4, .int .i64 a1_5, .int .i64 a1_6], .agg #[.int .i64 a2_0, .int .i64 a2_1, .int .i64 a2_2, .int .i64 a2_3], .int .i64 a3, .agg #[.int .i64 a4_0, .int .i64 a4_1], .agg #[.int .i64 a5_0, .int .i64 a5_1, .int .i64 a5_2, .int .i64 a5_3, .int .i64 a5_4, .int .i64 a5_5], .int .i64 a6] w fun e w' => ∃ v0_ : Value, e = .returned (.tuple #[v0_, .int .i64 r2, .int .i64 r3]) ∧ Kd.R k33 33 w' w.heap.size (fun _ => True) v0_ r1 ∧ Below w.heap.size w w' := by
 have e_ := Option.some.inj h
 have q_ := Best_any ⟨a0_0, a0_1, a0_2, a0_3, a0_4, a0_5, a0_6, l0_7, l0_8⟩ ⟨a1_0, a1_1, ⟨a1_2, a1_3⟩, ⟨a1_4, a1_5⟩, a1_6⟩ ⟨⟨a2_0, a2_1⟩, ⟨a2_2, a2_3⟩⟩ a3 ⟨a4_0, a4_1⟩ ⟨⟨⟨a5_0, a5_1⟩, ⟨a5_2, a5_3⟩⟩, a5_4, a5_5⟩ a6 A0_7 A0_8 c0_7 c0_8 w hc0_7 hr0_7 hc0_8 hr0_8
 rw [e_] at q_
 exact q_
end Go.Proofs.Ytmhaiihjfgfaoaa.Pr
end
section
/- The contracts of exported functions, as the printed texts ask for them. -/
namespace Go.Proofs.Ytmhaiihjfgfaoaa.Pr
open Go.RowKit Go.Proofs.YtmhaiihjfgfaoaaW.PrintWords Go.Proofs.YtmhaiihjfgfaoaaW.PrintLast Go.Proofs.YtmhaiihjfgfaoaaW.PrintMore Go.Proofs.Ytmhaiihjfgfaoaa.Gl
set_option linter.unusedVariables false
def glider_checkBoxes.f (l0 : List (S31)) : Option (Int) := some (boxesE l0)
theorem glider_checkBoxes.calls (A0 : Option Addr) (c0 : Nat) (l0 : List (S31)) (r : Int) (w : World) (hr0 : Kd.C k31 w A0 l0.length l0) (hc0 : l0.length ≤ c0) (h : glider_checkBoxes.f l0 = some r) :
  Calls Try.prog 88 #[.slice A0 l0.length c0] w fun e w' => e = .returned (.int .i64 r) ∧ Below w.heap.size w w' := by
 cases h
 exact boxes_any A0 c0 l0 w hr0 hc0
end Go.Proofs.Ytmhaiihjfgfaoaa.Pr
end
section
/- Is a run among some too long: what the program answers. -/
namespace Go.Proofs.Ytmhaiihjfgfaoaa.Gl
open Go.RowKit Go.Shelf Go.Proofs.YtmhaiihjfgfaoaaW.PrintWords Go.Proofs.YtmhaiihjfgfaoaaW.PrintLast Go.Proofs.YtmhaiihjfgfaoaaW.PrintMore Go.Proofs.Ytmhaiihjfgfaoaa.Pr Go.Proofs.YtmhaiihjfgfaoaaW.Round
set_option linter.unusedVariables false
set_option linter.unusedSimpArgs false
attribute [local go_sem] max2_int min2_int max_two min_two max_four
set_option maxRecDepth 100000 in
set_option maxHeartbeats 2000000 in
theorem v1_any (n c : Nat) (A : Option Addr) (w : World) : Calls Try.prog 87 #[.slice A n c] w (RetB (.bool (decide (64 < n))) w) := by
 by_cases h : 64 < n
 ·have hd : decide (64 < (n : Int)) = true := decide_eq_true (by omega)
  have HD := Lib.hid (decide_eq_true h)
  clear h
  go_enter Try.func87, Try.ntmps87
  go_wp2
  go_ret
  exact ⟨by rw [HD.out]; rfl, Below.refl _ _⟩
 ·have hd : decide (64 < (n : Int)) = false := decide_eq_false (by omega)
  have HD := Lib.hid (decide_eq_false h)
  clear h
  go_enter Try.func87, Try.ntmps87
  go_wp2
  go_ret
  exact ⟨by rw [HD.out]; rfl, Below.refl _ _⟩
set_option maxRecDepth 100000 in
set_option maxHeartbeats 2000000 in
theorem idx50_any (A : Option Addr) (c : Nat) (l : List (List S31)) (w : World) (hC : Kd.C (Kd.slice 31 k31) w A l.length l) (hc : l.length ≤ c) :
  Calls Try.prog 124 #[.slice A l.length c, .func (.func 87) #[] #[]] w (RetB (.int .i64 (idxI (fun x => decide (64 < x.length)) l)) w) := by
 have eg : ∀ args w, (callFunc 87 args).run Try.prog w = .ok (.enter 87 args) w := enters_of Try.func87 zq1 rfl
 have hb := hC.2.1
 have HI : Hid (idxI (fun x => decide (64 < x.length)) l = match l.findIdx? (fun x => decide (64 < x.length)) with | none => -1 | some i => (i : Int)) := Lib.hid rfl
 go_enter Try.func124, Try.ntmps124
 go_wp2
 go_loopw [8] (fun i wr => ∃ (k : Nat), k ≤ l.length ∧ i = .int .i64 k ∧ Hid ((l.take k).any (fun x => decide (64 < x.length)) = false) ∧ Below w.heap.size w wr) (fun i _ => l.length - (intOf i).toNat)
 case atStart => exact ⟨0, Nat.zero_le _, rfl, Lib.hid (by simp), Below.refl _ _⟩
 case round =>
  obtain ⟨k, hk, rfl, HA, mB⟩ := hrel
  by_cases hlt : k < l.length
  ·obtain ⟨ad, A0, c0, rfl, hx0, hc0, hC0⟩ := at_L11 hC k (by omega) (by omega)
   simp only [Int.toNat_natCast] at hx0
   clear hC0 hc0
   replace hx0 := (mB.cell (World.block_lt_of_cell? w _ hx0)).trans hx0
   have hlk : l[k]? = some (rd_L11 l (k : Int)) := by simp [rd_L11, List.getD_eq_getElem?_getD, hlt]
   have htk : l.take (k + 1) = l.take k ++ [rd_L11 l (k : Int)] := by rw [List.take_add_one, hlk]; rfl
   generalize rd_L11 l (k : Int) = x at *
   have HT := Lib.hid htk
   have HK := Lib.hid hlk
   clear htk hlk
   go_wp2_with fail
   have hcon := v1_any x.length c0 A0 wr
   (with_reducible refine hcon.mono ?_)
   clear hcon hx0
   rintro e W1 ⟨rfl, hb1⟩
   replace mB := below_step mB hb1
   clear hb1
   cases hbx : decide (64 < x.length) with
   | true =>
    have HE := Lib.hid (HI.out.trans (by rw [findIdx_at HK.out HA.out hbx]))
    clear hbx
    go_wp2
    go_ret
    exact ⟨by rw [HE.out]; rfl, mB⟩
   | false =>
    have HB := Lib.hid hbx
    clear hbx
    go_wp2
    go_roundw
    case rel => exact ⟨k + 1, by omega, by simp, Lib.hid zq12, mB⟩
    case measure => simp [intOf]; omega
  ·obtain rfl : k = l.length := by omega
   rw [List.take_length] at HA
   have hn : l.findIdx? (fun x => decide (64 < x.length)) = none := by
    rw [List.findIdx?_eq_none_iff]
    intro x hx
    have := List.any_eq_false.1 HA.out x hx
    simpa using this
   have HE := Lib.hid (HI.out.trans (by rw [hn]))
   clear hn
   go_wp2
   go_ret
   exact ⟨by rw [HE.out]; rfl, mB⟩
set_option maxHeartbeats 1000000 in
theorem cont50_any (A : Option Addr) (c : Nat) (l : List (List S31)) (w : World) (hC : Kd.C (Kd.slice 31 k31) w A l.length l) (hc : l.length ≤ c) :
  Calls Try.prog 86 #[.slice A l.length c, .func (.func 87) #[] #[]] w (RetB (.bool (l.any (fun x => decide (64 < x.length)))) w) := by
 have hcon := idx50_any A c l w hC hc
 have hx := idxI_any (fun x => decide (64 < x.length)) l
 generalize idxI (fun x => decide (64 < x.length)) l = I at *
 generalize l.any (fun x => decide (64 < x.length)) = R at *
 go_enter Try.func86, Try.ntmps86
 go_wp2_with fail
 (with_reducible refine hcon.mono ?_)
 clear hcon
 rintro e W1 ⟨rfl, mB⟩
 rcases hx with ⟨h1, h2⟩ | ⟨h1, h2⟩
 ·have HA := Lib.hid h2
  have hd : decide (0 ≤ I) = false := decide_eq_false (by omega)
  clear h1 h2
  go_wp2
  go_ret
  exact ⟨by rw [HA.out]; rfl, mB⟩
 ·have HA := Lib.hid h2
  have hd : decide (0 ≤ I) = true := decide_eq_true (by omega)
  clear h1 h2
  go_wp2
  go_ret
  exact ⟨by rw [HA.out]; rfl, mB⟩
end Go.Proofs.Ytmhaiihjfgfaoaa.Gl
end
section
/- A call with a function that is known, as the printed text asks for it. -/
namespace Go.Proofs.Ytmhaiihjfgfaoaa.Pr
open Go.RowKit Go.Proofs.YtmhaiihjfgfaoaaW.PrintWords Go.Proofs.YtmhaiihjfgfaoaaW.PrintLast Go.Proofs.YtmhaiihjfgfaoaaW.PrintMore Go.Proofs.Ytmhaiihjfgfaoaa.Gl
set_option linter.unusedVariables false
def api_Box_86.f (l0 : List (List (S31))) : Option (Bool) := some (l0.any (fun x => decide (64 < x.length)))
theorem api_Box_86.calls (A0 : Option Addr) (c0 : Nat) (l0 : List (List (S31))) (r : Bool) (w : World) (hr0 : Kd.C (Kd.slice 31 k31) w A0 l0.length l0) (hc0 : l0.length ≤ c0) (h : api_Box_86.f l0 = some r) :
  Calls Try.prog 86 #[.slice A0 l0.length c0, .func (.func 87) #[] #[]] w fun e w' => e = .returned (.bool r) ∧ Below w.heap.size w w' := by
 cases h
 exact cont50_any A0 c0 l0 w hr0 hc0
end Go.Proofs.Ytmhaiihjfgfaoaa.Pr
end
