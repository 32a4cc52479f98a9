/- Part 11 of the proof of GliderKnown: what the functions compute. No condition. -/
import Derived.Test.YtmhaiihjfgfaoaaGkGliderKnown3
import Derived.Test.YtmhaiihjfgfaoaaGkGliderKnown10
import Derived.Test.YtmhaiihjfgfaoaaGkGliderKnown4
set_option linter.unusedVariables false
set_option linter.unusedSimpArgs false
section
/- A dive. -/
namespace Go.Proofs.Ytmhaiihjfgfaoaa.Gl
open Go.RowKit Go.Shelf Go.Proofs.YtmhaiihjfgfaoaaW.PrintWords Go.Proofs.YtmhaiihjfgfaoaaW.PrintLast Go.Proofs.YtmhaiihjfgfaoaaW.PrintMore Go.Proofs.Ytmhaiihjfgfaoaa.Pr Go.Proofs.YtmhaiihjfgfaoaaW.Round
set_option linter.unusedVariables false
set_option linter.unusedSimpArgs false
attribute [local go_sem] max2_int min2_int max_two min_two max_four
/-- A valid sea. -/
structure SeaV (s : Sea) : Prop where
 n : SeaN s
 sh : (s.shores.length : Int) = s.nx * s.ny
 cu : (s.currents.length : Int) = s.slots * s.layers * (s.nx * s.ny)
 cb : CurB s
/-- A box whose numbers are in order and not too large. -/
def BoxOK (x : S31) : Prop := SmallB x ∧ x.f0.f0 ≤ x.f0.f1 ∧ x.f1.f0 ≤ x.f1.f1
theorem reach_ok {s : Sea} {v : Veh} {x : S31} {t : Int} (hS : SeaN s) (hV : VehN v) (hx : BoxOK x) (h : reachE s v x t = 0) : InSea s (grownI s v x) ∧ (0 ≤ t ∧ t + v.dive ≤ s.slots * s.slot) ∧ (0 ≤ x.f0.f0 ∧ x.f0.f1 ≤ 1000000) ∧ (0 ≤ x.f1.f0 ∧ x.f1.f1 ≤ 1000000) := by
 have hm := hS.most
 have hsp := hV.speed
 have hdv := hV.dive
 have p1 := mul_in (show 0 ≤ v.speed + s.most by omega) (show v.speed + s.most ≤ 10000 by omega) (show 0 ≤ v.dive by omega) hdv.2
 have p2 := mul_in (show 0 ≤ s.nx by have := hS.nx; omega) hS.nx.2 (show 0 ≤ s.cell by have := hS.cell; omega) hS.cell.2
 have p3 := mul_in (show 0 ≤ s.ny by have := hS.ny; omega) hS.ny.2 (show 0 ≤ s.cell by have := hS.cell; omega) hS.cell.2
 obtain ⟨⟨x0, x1, x2, x3⟩, x4, x5⟩ := hx
 unfold reachE at h
 have hc : containsI s (grownI s v x) = true ∧ knownI s t (t + v.dive) = true := by
  by_cases hb : (containsI s (grownI s v x) && knownI s t (t + v.dive)) = true
  ·exact Bool.and_eq_true_iff.1 hb
  ·rw [if_neg hb] at h
   cases h
 obtain ⟨h1, h2⟩ := hc
 unfold containsI grownI at h1
 unfold knownI at h2
 simp only [Bool.and_eq_true, decide_eq_true_eq] at h1 h2
 unfold InSea grownI
 dsimp only
 omega
def diveE (s : Sea) (v : Veh) (x : S31) (t : Int) : Int := if reachE s v x t ≠ 0 then reachE s v x t else safeE s (grownI s v x)
def diveV (s : Sea) (v : Veh) (x : S31) (t hd layer : Int) : S31 := if diveE s v x t = 0 then endsI s v x (grownI s v x) t hd layer else z31
theorem safe_two (s : Sea) (x : S31) : safeE s x = 0 ∨ safeE s x = 21 := by
 unfold safeE
 split
 ·exact .inr rfl
 ·exact .inl rfl
theorem dive_box {s : Sea} {v : Veh} {x : S31} {t hd layer : Int} (hS : SeaV s) (hV : VehN v) (hx : BoxOK x) (h : diveE s v x t = 0) : BoxOK (diveV s v x t hd layer) := by
 have hr : reachE s v x t = 0 := by
  unfold diveE at h
  by_cases hz : reachE s v x t = 0
  ·exact hz
  ·rw [if_pos hz] at h
   exact absurd h hz
 obtain ⟨_, _, ⟨a0, a1⟩, b0, b1⟩ := reach_ok hS.n hV hx hr
 obtain ⟨_, o1, o2⟩ := hx
 have hdv := hV.dive
 have hsp := hV.speed
 have hdi := dirI_in hd
 have hai := at_in hS.cb (grownI s v x) layer t (t + v.dive)
 unfold diveV
 rw [if_pos h]
 unfold endsI shiftI BoxOK SmallB downM upM
 dsimp only
 generalize atI s (grownI s v x) layer t (t + v.dive) = y at *
 generalize dirI hd = d at *
 obtain ⟨⟨y0, y1⟩, ⟨y2, y3⟩, ⟨y4, y5⟩, ⟨y6, y7⟩, y8, y9⟩ := hai
 have m0 := mul_abs (a := d.1) (b := v.speed) (m := 1000) (n := 5000) hdi.1.1 hdi.1.2 hsp.1 hsp.2 (by omega)
 have m1 := mul_abs (a := d.2) (b := v.speed) (m := 1000) (n := 5000) hdi.2.1 hdi.2.2 hsp.1 hsp.2 (by omega)
 generalize d.1 * v.speed = e at *
 generalize d.2 * v.speed = f at *
 have n0 := mul_abs (a := e + 1000 * y.f0.f0) (b := v.dive) (m := 10000000) (n := 131072) (by omega) (by omega) (by omega) (by omega) (by omega)
 have n1 := mul_abs (a := e + 1000 * y.f0.f1) (b := v.dive) (m := 10000000) (n := 131072) (by omega) (by omega) (by omega) (by omega) (by omega)
 have n2 := mul_abs (a := f + 1000 * y.f1.f0) (b := v.dive) (m := 10000000) (n := 131072) (by omega) (by omega) (by omega) (by omega) (by omega)
 have n3 := mul_abs (a := f + 1000 * y.f1.f1) (b := v.dive) (m := 10000000) (n := 131072) (by omega) (by omega) (by omega) (by omega) (by omega)
 have k0 := Int.mul_le_mul_of_nonneg_right (show e + 1000 * y.f0.f0 ≤ e + 1000 * y.f0.f1 by omega) (show 0 ≤ v.dive by omega)
 have k1 := Int.mul_le_mul_of_nonneg_right (show f + 1000 * y.f1.f0 ≤ f + 1000 * y.f1.f1 by omega) (show 0 ≤ v.dive by omega)
 generalize (e + 1000 * y.f0.f0) * v.dive = A at *
 generalize (e + 1000 * y.f0.f1) * v.dive = B at *
 generalize (f + 1000 * y.f1.f0) * v.dive = C at *
 generalize (f + 1000 * y.f1.f1) * v.dive = E at *
 clear m0 m1 hdi hdv hsp h hr
 omega
set_option maxRecDepth 100000 in
set_option maxHeartbeats 8000000 in
theorem dive_any (b : Nat) (s : Sea) (v : Veh) (x : S31) (t hd layer : Int) (w : World) (hT : TripAt w b s v) (hS : SeaV s) (hV : VehN v) (hx : BoxOK x) (ht0 : 0 ≤ t) (ht1 : t ≤ 1099511627776) (hh0 : 0 ≤ hd) (hh1 : hd ≤ 8) (hl0 : 0 ≤ layer) (hl1 : layer < s.layers) :
  Calls Try.prog 66 #[.pointer (some ⟨b, 0, none⟩), .agg #[.int .i64 x.f0.f0, .int .i64 x.f0.f1, .int .i64 x.f1.f0, .int .i64 x.f1.f1], .int .i64 t, .agg #[.int .i64 hd, .int .i64 layer]] w (RetB (.tuple #[.agg #[.int .i64 (diveV s v x t hd layer).f0.f0, .int .i64 (diveV s v x t hd layer).f0.f1, .int .i64 (diveV s v x t hd layer).f1.f0, .int .i64 (diveV s v x t hd layer).f1.f1], .int .i64 (diveE s v x t)]) w) := by
 have hu31 := Try.underlying31
 have hu27 := Try.underlying27
 have hu33 := Try.underlying33
 have kR := fun W (h : TripAt W b s v) => reach_any b s v x t W h hS.n hV hx.1 ht0 ht1
 have hok := reach_ok (t := t) hS.n hV hx
 have HE : Hid (diveE s v x t = if reachE s v x t ≠ 0 then reachE s v x t else safeE s (grownI s v x)) := Lib.hid rfl
 have HV : Hid (diveV s v x t hd layer = if diveE s v x t = 0 then endsI s v x (grownI s v x) t hd layer else z31) := Lib.hid rfl
 have HRV : Hid (reachV s v x t = if reachE s v x t = 0 then grownI s v x else z31) := Lib.hid rfl
 go_enter Try.func66, Try.ntmps66
 go_wp2_with fail
 have m5 : Blk (((w.alloc (.cells #[.int .i64 x.f0.f0, .int .i64 x.f0.f1, .int .i64 x.f1.f0, .int .i64 x.f1.f1] 31)).alloc (.cells #[.int .i64 hd, .int .i64 layer] 33)).alloc (.cells #[.int .i64 0, .int .i64 0, .int .i64 0, .int .i64 0] 31)) (w.heap.size) #[.int .i64 x.f0.f0, .int .i64 x.f0.f1, .int .i64 x.f1.f0, .int .i64 x.f1.f1] 31 := (blk_alloc (blk_alloc zq21 _) _)
 have m7 : Blk (((w.alloc (.cells #[.int .i64 x.f0.f0, .int .i64 x.f0.f1, .int .i64 x.f1.f0, .int .i64 x.f1.f1] 31)).alloc (.cells #[.int .i64 hd, .int .i64 layer] 33)).alloc (.cells #[.int .i64 0, .int .i64 0, .int .i64 0, .int .i64 0] 31)) (w.heap.size + 1) #[.int .i64 hd, .int .i64 layer] 33 := (blk_alloc (by have h_ := blk_new (w.alloc (.cells #[.int .i64 x.f0.f0, .int .i64 x.f0.f1, .int .i64 x.f1.f0, .int .i64 x.f1.f1] 31)) (.cells #[.int .i64 hd, .int .i64 layer] 33); first | exact h_ | (simp only [World.size_alloc] at h_; exact h_)) _)
 have m8 : Blk (((w.alloc (.cells #[.int .i64 x.f0.f0, .int .i64 x.f0.f1, .int .i64 x.f1.f0, .int .i64 x.f1.f1] 31)).alloc (.cells #[.int .i64 hd, .int .i64 layer] 33)).alloc (.cells #[.int .i64 0, .int .i64 0, .int .i64 0, .int .i64 0] 31)) (w.heap.size + 1 + 1) #[.int .i64 0, .int .i64 0, .int .i64 0, .int .i64 0] 31 := (by have h_ := blk_new ((w.alloc (.cells #[.int .i64 x.f0.f0, .int .i64 x.f0.f1, .int .i64 x.f1.f0, .int .i64 x.f1.f1] 31)).alloc (.cells #[.int .i64 hd, .int .i64 layer] 33)) (.cells #[.int .i64 0, .int .i64 0, .int .i64 0, .int .i64 0] 31); first | exact h_ | (simp only [World.size_alloc] at h_; exact h_))
 have mB : Below w.heap.size w (((w.alloc (.cells #[.int .i64 x.f0.f0, .int .i64 x.f0.f1, .int .i64 x.f1.f0, .int .i64 x.f1.f1] 31)).alloc (.cells #[.int .i64 hd, .int .i64 layer] 33)).alloc (.cells #[.int .i64 0, .int .i64 0, .int .i64 0, .int .i64 0] 31)) := (below_alloc (below_alloc (below_alloc (Below.refl w.heap.size w) _) _) _)
 have hsz_ : w.heap.size ≤ w.heap.size := Nat.le_refl _
 generalize hW_ : (((w.alloc (.cells #[.int .i64 x.f0.f0, .int .i64 x.f0.f1, .int .i64 x.f1.f0, .int .i64 x.f1.f1] 31)).alloc (.cells #[.int .i64 hd, .int .i64 layer] 33)).alloc (.cells #[.int .i64 0, .int .i64 0, .int .i64 0, .int .i64 0] 31)) = W1 at m5 m7 m8 mB ⊢
 clear hW_
 generalize hg5 : w.heap.size = g5 at m5 m7 m8 ⊢
 have hG5 : w.heap.size ≤ g5 := by omega
 generalize hg7 : g5 + 1 = g7 at m7 m8 ⊢
 have hn_5_7 : g5 ≠ g7 := by omega
 have hn_7_5 : g7 ≠ g5 := hn_5_7.symm
 have hG7 : w.heap.size ≤ g7 := by omega
 generalize hg8 : g7 + 1 = g8 at m8 ⊢
 have hn_5_8 : g5 ≠ g8 := by omega
 have hn_7_8 : g7 ≠ g8 := by omega
 have hn_8_5 : g8 ≠ g5 := hn_5_8.symm
 have hn_8_7 : g8 ≠ g7 := hn_7_8.symm
 have hG8 : w.heap.size ≤ g8 := by omega
 clear hsz_
 try clear hg8
 try clear hg7
 try clear hg5
 have hs_W1 : w.heap.size ≤ W1.heap.size := mB.size
 have hcon := kR W1 (hT.below mB)
 (with_reducible refine hcon.mono ?_)
 clear hcon
 rintro e W2 ⟨rfl, hb⟩
 replace m5 := blk_below m5 hb
 replace m7 := blk_below m7 hb
 replace m8 := blk_below m8 hb
 replace mB := below_step mB hb
 clear hb
 have hs_W2 : w.heap.size ≤ W2.heap.size := mB.size
 clear kR
 by_cases hr : reachE s v x t = 0
 case neg =>
  have HZ : Hid (diveE s v x t = reachE s v x t) := Lib.hid (HE.out.trans (if_pos hr))
  try clear HE
  have HV2 : Hid (diveV s v x t hd layer = z31) := Lib.hid (HV.out.trans (if_neg (by rw [HZ.out]; exact hr)))
  clear HV hok
  generalize reachE s v x t = E at *
  generalize reachV s v x t = V at *
  have hz : (E == 0) = false := beq_eq_false_iff_ne.2 hr
  have hz2 : (E != 0) = true := by rw [bne, hz]; rfl
  clear hr HRV
  have a8_0 : ∀ o_, (W2.alloc o_).cell? ⟨g8, 0, none⟩ = some (.int .i64 0) := fun o_ => (blk_cell (blk_alloc m8 o_) 0).trans rfl
  have b8_0 : ∀ o_, (W2.alloc o_).frozen? ⟨g8, 0, none⟩ = false := fun o_ => blk_frozen (blk_alloc m8 o_) 0
  have a8_1 : ∀ o_, (W2.alloc o_).cell? ⟨g8, 1, none⟩ = some (.int .i64 0) := fun o_ => (blk_cell (blk_alloc m8 o_) 1).trans rfl
  have b8_1 : ∀ o_, (W2.alloc o_).frozen? ⟨g8, 1, none⟩ = false := fun o_ => blk_frozen (blk_alloc m8 o_) 1
  have a8_2 : ∀ o_, (W2.alloc o_).cell? ⟨g8, 2, none⟩ = some (.int .i64 0) := fun o_ => (blk_cell (blk_alloc m8 o_) 2).trans rfl
  have b8_2 : ∀ o_, (W2.alloc o_).frozen? ⟨g8, 2, none⟩ = false := fun o_ => blk_frozen (blk_alloc m8 o_) 2
  have a8_3 : ∀ o_, (W2.alloc o_).cell? ⟨g8, 3, none⟩ = some (.int .i64 0) := fun o_ => (blk_cell (blk_alloc m8 o_) 3).trans rfl
  have b8_3 : ∀ o_, (W2.alloc o_).frozen? ⟨g8, 3, none⟩ = false := fun o_ => blk_frozen (blk_alloc m8 o_) 3
  go_wp2
  exact bodyPost_ret (results_ct rfl _ _ g8 31 #[.int .i64 0, .int .i64 0, .int .i64 0, .int .i64 0] (0, 0) _ rfl (blk_put (blk_put (blk_put (blk_put (blk_alloc m8 _) 0 (.int .i64 0) rfl) 1 (.int .i64 0) rfl) 2 (.int .i64 0) rfl) 3 (.int .i64 0) rfl) Try.underlying31 rfl zq1) rfl ⟨zq22, (Below.setCell (p := ⟨g8, 3, none⟩) (Below.setCell (p := ⟨g8, 2, none⟩) (Below.setCell (p := ⟨g8, 1, none⟩) (Below.setCell (p := ⟨g8, 0, none⟩) (below_alloc mB _) hG8 _) hG8 _) hG8 _) hG8 _)⟩
 case pos =>
  obtain ⟨hG, ⟨hk0, hk1⟩, _⟩ := hok hr
  clear hok
  have HE2 := Lib.hid (HE.out.trans (if_neg (fun h => h hr)))
  clear HE
  have HRV2 := Lib.hid (HRV.out.trans (if_pos hr))
  clear HRV
  rw [hr, HRV2.out]
  clear hr HRV2
  have kS := fun W (h : TripAt W b s v) => safe_any b s v (grownI s v x) W h hS.n hG hS.sh
  have kD := fun W (h : TripAt W b s v) => ends_any b s v x (grownI s v x) t hd layer W h hS.n hV hS.cu hS.cb hx.1 hG hk0 hk1 hh0 hh1 hl0 hl1
  clear hS hV hx hG hk0 hk1 hh0 hh1 hl0 hl1
  have hsf := safe_two s (grownI s v x)
  generalize endsI s v x (grownI s v x) t hd layer = Y at *
  generalize grownI s v x = G at *
  generalize safeE s G = F at *
  go_wp2_with fail
  have hl_5 := blk_lt m5
  have hl_7 := blk_lt m7
  have hl_8 := blk_lt m8
  have m10 : Blk (W2.alloc (.cells #[.int .i64 G.f0.f0, .int .i64 G.f0.f1, .int .i64 G.f1.f0, .int .i64 G.f1.f1] 31)) (W2.heap.size) #[.int .i64 G.f0.f0, .int .i64 G.f0.f1, .int .i64 G.f1.f0, .int .i64 G.f1.f1] 31 := zq29
  replace m5 : Blk (W2.alloc (.cells #[.int .i64 G.f0.f0, .int .i64 G.f0.f1, .int .i64 G.f1.f0, .int .i64 G.f1.f1] 31)) g5 #[.int .i64 x.f0.f0, .int .i64 x.f0.f1, .int .i64 x.f1.f0, .int .i64 x.f1.f1] 31 := (blk_alloc m5 _)
  replace m7 : Blk (W2.alloc (.cells #[.int .i64 G.f0.f0, .int .i64 G.f0.f1, .int .i64 G.f1.f0, .int .i64 G.f1.f1] 31)) g7 #[.int .i64 hd, .int .i64 layer] 33 := (blk_alloc m7 _)
  replace m8 : Blk (W2.alloc (.cells #[.int .i64 G.f0.f0, .int .i64 G.f0.f1, .int .i64 G.f1.f0, .int .i64 G.f1.f1] 31)) g8 #[.int .i64 0, .int .i64 0, .int .i64 0, .int .i64 0] 31 := (blk_alloc m8 _)
  replace mB : Below w.heap.size w (W2.alloc (.cells #[.int .i64 G.f0.f0, .int .i64 G.f0.f1, .int .i64 G.f1.f0, .int .i64 G.f1.f1] 31)) := (below_alloc mB _)
  have hsz_ : w.heap.size ≤ W2.heap.size := hs_W2
  generalize hW_ : (W2.alloc (.cells #[.int .i64 G.f0.f0, .int .i64 G.f0.f1, .int .i64 G.f1.f0, .int .i64 G.f1.f1] 31)) = W3 at m5 m7 m8 m10 mB ⊢
  clear hW_
  generalize hg10 : W2.heap.size = g10 at m10 ⊢
  have hn_5_10 : g5 ≠ g10 := by omega
  have hn_7_10 : g7 ≠ g10 := by omega
  have hn_8_10 : g8 ≠ g10 := by omega
  have hn_10_5 : g10 ≠ g5 := hn_5_10.symm
  have hn_10_7 : g10 ≠ g7 := hn_7_10.symm
  have hn_10_8 : g10 ≠ g8 := hn_8_10.symm
  have hG10 : w.heap.size ≤ g10 := by omega
  clear hsz_ hl_5 hl_7 hl_8
  try clear hg10
  have hs_W3 : w.heap.size ≤ W3.heap.size := mB.size
  have hcon := kS W3 (hT.below mB)
  (with_reducible refine hcon.mono ?_)
  clear hcon
  rintro e W4 ⟨rfl, hb⟩
  replace m5 := blk_below m5 hb
  replace m7 := blk_below m7 hb
  replace m8 := blk_below m8 hb
  replace m10 := blk_below m10 hb
  replace mB := below_step mB hb
  clear hb
  have hs_W4 : w.heap.size ≤ W4.heap.size := mB.size
  clear kS
  rcases hsf with rfl | rfl
  case inr =>
   have HZ : Hid (diveE s v x t = 21) := Lib.hid (HE2.out)
   try clear HE
   have HV2 : Hid (diveV s v x t hd layer = z31) := Lib.hid (HV.out.trans (if_neg (by rw [HZ.out]; decide)))
   clear HV
   obtain ⟨c8_0, c8_1, c8_2, c8_3, f8_0, f8_1, f8_2, f8_3⟩ := zce4 m8
   go_wp2
   exact bodyPost_ret (results_ct rfl _ _ g8 31 #[.int .i64 0, .int .i64 0, .int .i64 0, .int .i64 0] (0, 0) _ rfl (blk_put (blk_put (blk_put (blk_put m8 0 (.int .i64 0) rfl) 1 (.int .i64 0) rfl) 2 (.int .i64 0) rfl) 3 (.int .i64 0) rfl) Try.underlying31 rfl zq1) rfl ⟨zq22, (Below.setCell (p := ⟨g8, 3, none⟩) (Below.setCell (p := ⟨g8, 2, none⟩) (Below.setCell (p := ⟨g8, 1, none⟩) (Below.setCell (p := ⟨g8, 0, none⟩) mB hG8 _) hG8 _) hG8 _) hG8 _)⟩
  case inl =>
   have HV2 := Lib.hid (HV.out.trans (if_pos HE2.out))
   clear HV
   obtain ⟨c5_0, c5_1, c5_2, c5_3⟩ := zcs4 m5
   obtain ⟨c7_0, c7_1⟩ := zcs2 m7
   obtain ⟨c10_0, c10_1, c10_2, c10_3⟩ := zcs4 m10
   go_wp2_with fail
   clear c5_0 c5_1 c5_2 c5_3 c7_0 c7_1 c10_0 c10_1 c10_2 c10_3
   have hcon := kD W4 (hT.below mB)
   (with_reducible refine hcon.mono ?_)
   clear hcon
   rintro e W5 ⟨rfl, hb⟩
   replace m5 := blk_below m5 hb
   replace m7 := blk_below m7 hb
   replace m8 := blk_below m8 hb
   replace m10 := blk_below m10 hb
   replace mB := below_step mB hb
   clear hb
   have hs_W5 : w.heap.size ≤ W5.heap.size := mB.size
   clear kD
   obtain ⟨c8_0, c8_1, c8_2, c8_3, f8_0, f8_1, f8_2, f8_3⟩ := zce4 m8
   go_wp2
   exact bodyPost_ret (results_ct rfl _ _ g8 31 #[.int .i64 Y.f0.f0, .int .i64 Y.f0.f1, .int .i64 Y.f1.f0, .int .i64 Y.f1.f1] (0, 0) _ rfl (blk_put (blk_put (blk_put (blk_put m8 0 (.int .i64 Y.f0.f0) rfl) 1 (.int .i64 Y.f0.f1) rfl) 2 (.int .i64 Y.f1.f0) rfl) 3 (.int .i64 Y.f1.f1) rfl) Try.underlying31 rfl zq1) rfl ⟨by rw [HV2.out, HE2.out]; rfl, (Below.setCell (p := ⟨g8, 3, none⟩) (Below.setCell (p := ⟨g8, 2, none⟩) (Below.setCell (p := ⟨g8, 1, none⟩) (Below.setCell (p := ⟨g8, 0, none⟩) mB hG8 _) hG8 _) hG8 _) hG8 _)⟩
end Go.Proofs.Ytmhaiihjfgfaoaa.Gl
end
section
namespace Go.Proofs.Ytmhaiihjfgfaoaa.Pr
open Go.RowKit Go.Proofs.YtmhaiihjfgfaoaaW.PrintWords Go.Proofs.YtmhaiihjfgfaoaaW.PrintLast Go.Proofs.YtmhaiihjfgfaoaaW.PrintMore
attribute [local go_sem] max2_int min2_int max_two min_two max_four
set_option linter.unusedVariables false
set_option linter.unusedSimpArgs false

/-! ### bound_amount: function 117 -/
def bound_amount.f (a0 : Int) : Option (Int) := some (mx a0 (wrap64 (-a0)))
set_option maxHeartbeats 8000000 in
set_option maxRecDepth 100000 in
theorem bound_amount.calls (a0 : Int) (r : Int) (w : World) (h : bound_amount.f a0 = some r) :
  Calls Try.prog 117 #[.int .i64 a0] w fun e w' => e = .returned (.int .i64 r) ∧ Below w.heap.size w w' := by
 have HB := Aside0.mk (Below.refl w.heap.size w)
 have H : (some (mx a0 (wrap64 (-a0)))) = some r := h
 clear h
 obtain ⟨ji2, hji2⟩ : ∃ j_ : Int, (mx a0 (wrap64 (-a0))) = j_ := ⟨_, rfl⟩
 replace H : (some ji2) = some r := by first | (rw [hji2] at H; exact H) | (simp only [hji2] at H ⊢; exact H)
 have hji2_ : (if a0 < (wrap64 (-a0)) then (wrap64 (-a0)) else a0) = ji2 := hji2
 obtain rfl := Option.some.inj H
 go_enter Try.func117, Try.ntmps117
 go_wp2
 go_ret
 exact ⟨by first | rfl | (simp [errW_none, errW_some] <;> rfl) | (simp only [← hji2]; first | rfl | (simp [errW_none, errW_some] <;> rfl)) | (simp [*, errW_none, errW_some] <;> rfl), zbz⟩

end Go.Proofs.Ytmhaiihjfgfaoaa.Pr
end
section
namespace Go.Proofs.Ytmhaiihjfgfaoaa.Pr
open Go.RowKit Go.Proofs.YtmhaiihjfgfaoaaW.PrintWords Go.Proofs.YtmhaiihjfgfaoaaW.PrintLast Go.Proofs.YtmhaiihjfgfaoaaW.PrintMore
attribute [local go_sem] max2_int min2_int max_two min_two max_four
set_option linter.unusedVariables false
set_option linter.unusedSimpArgs false

/-! ### bound_CheckBox: function 67 -/
def bound_CheckBox.f (k : Nat) (a0_0 : Int) (a0_1 : Int) (a0_2 : Int) (a0_3 : Int) : Option (Int) := (bound_check.f k (([(⟨a0_0, a0_1⟩ : S27), (⟨a0_2, a0_3⟩ : S27)] : List (S27)))).bind fun t148 => (if t148 = 0 then ((bound_amount.f a0_0).bind fun t149 => ((bound_amount.f a0_1).bind fun t150 => ((bound_amount.f a0_2).bind fun t151 => ((bound_amount.f a0_3).bind fun t152 => (if (mx (mx (mx t149 t150) t151) t152) > 268435456 then (some 2) else (some 0)))))) else (some t148))
def bound_CheckBox.T4 : Bool × List (List Nat × List Nat) := (true, [([], []), ([0], [0]), ([1], [1]), ([2], [2]), ([], []), ([4], [4]), ([5], [5]), ([6, 3], [6]), ([], []), ([8], [8]), ([9], [9]), ([10, 7], [10]), ([], []), ([12], [12]), ([13], [13]), ([14, 11], [14]), ([3, 7, 11, 15], [3, 7, 11, 15]), ([16], [16])])
def bound_CheckBox.B4 : List Nat := [0, 1, 3, 7, 0, 16, 48, 127, 0, 256, 768, 2047, 0, 4096, 12288, 32767, 65535, 131071]
theorem bound_CheckBox.tab4 : rtab .any (opsOf Try.f67 4) = bound_CheckBox.T4 := by kernel_rfl
theorem bound_CheckBox.bits4 : waitsOk bound_CheckBox.T4.2 bound_CheckBox.B4 = true := by kernel_rfl
set_option maxHeartbeats 8000000 in
set_option maxRecDepth 100000 in
theorem bound_CheckBox.calls (k : Nat) (a0_0 : Int) (a0_1 : Int) (a0_2 : Int) (a0_3 : Int) (r : Int) (w : World) (h : bound_CheckBox.f k a0_0 a0_1 a0_2 a0_3 = some r) :
  Calls Try.prog 67 #[.agg #[.int .i64 a0_0, .int .i64 a0_1, .int .i64 a0_2, .int .i64 a0_3]] w fun e w' => e = .returned (.int .i64 r) ∧ Below w.heap.size w w' := by
 have hu31 := Try.underlying31
 have hu27 := Try.underlying27
 have HB := Aside0.mk (Below.refl w.heap.size w)
 have H : ((bound_check.f k (([(⟨a0_0, a0_1⟩ : S27), (⟨a0_2, a0_3⟩ : S27)] : List (S27)))).bind fun t148 => (if t148 = 0 then ((bound_amount.f a0_0).bind fun t149 => ((bound_amount.f a0_1).bind fun t150 => ((bound_amount.f a0_2).bind fun t151 => ((bound_amount.f a0_3).bind fun t152 => (if (mx (mx (mx t149 t150) t151) t152) > 268435456 then (some 2) else (some 0)))))) else (some t148))) = some r := h
 clear h
 obtain ⟨y145, hy145⟩ : ∃ y_ : List (S27), y_ = (([(⟨a0_0, a0_1⟩ : S27), (⟨a0_2, a0_3⟩ : S27)] : List (S27))) := ⟨_, rfl⟩
 replace H : ((bound_check.f k y145).bind fun t148 => (if t148 = 0 then ((bound_amount.f a0_0).bind fun t149 => ((bound_amount.f a0_1).bind fun t150 => ((bound_amount.f a0_2).bind fun t151 => ((bound_amount.f a0_3).bind fun t152 => (if (mx (mx (mx t149 t150) t151) t152) > 268435456 then (some 2) else (some 0)))))) else (some t148))) = some r := by first | (rw [hy145]; with_reducible exact H) | (have H2_ := (Option.bind_some _ _).symm.trans H; rw [hy145]; with_reducible exact H2_) | (have H2_ := (Option.bind_some _ _).symm.trans H; with_reducible exact H2_) | with_reducible exact H | (rw [hy145]; exact H) | exact H
 have Ny145 := Aside0.mk hy145
 clear hy145
 replace H := Option.bind_eq_some_iff.mp H
 obtain ⟨t148, A20, H⟩ := H
 replace H : (if t148 = 0 then ((bound_amount.f a0_0).bind fun t149 => ((bound_amount.f a0_1).bind fun t150 => ((bound_amount.f a0_2).bind fun t151 => ((bound_amount.f a0_3).bind fun t152 => (if (mx (mx (mx t149 t150) t151) t152) > 268435456 then (some 2) else (some 0)))))) else (some t148)) = some r := H
 have A2 := Aside0.mk A20
 clear A20
 by_cases c3 : t148 = 0
 ·rw [if_pos c3] at H
  have c3b0 : (t148 == 0) = true := beq_iff_eq.mpr c3
  have c3b1 : (t148 != 0) = false := bne_eq_false_iff_eq.mpr c3
  clear c3
  replace H := Option.bind_eq_some_iff.mp H
  obtain ⟨t149, A40, H⟩ := H
  replace H : ((bound_amount.f a0_1).bind fun t150 => ((bound_amount.f a0_2).bind fun t151 => ((bound_amount.f a0_3).bind fun t152 => (if (mx (mx (mx t149 t150) t151) t152) > 268435456 then (some 2) else (some 0))))) = some r := H
  have A4 := Aside0.mk A40
  clear A40
  replace H := Option.bind_eq_some_iff.mp H
  obtain ⟨t150, A50, H⟩ := H
  replace H : ((bound_amount.f a0_2).bind fun t151 => ((bound_amount.f a0_3).bind fun t152 => (if (mx (mx (mx t149 t150) t151) t152) > 268435456 then (some 2) else (some 0)))) = some r := H
  have A5 := Aside0.mk A50
  clear A50
  replace H := Option.bind_eq_some_iff.mp H
  obtain ⟨t151, A60, H⟩ := H
  replace H : ((bound_amount.f a0_3).bind fun t152 => (if (mx (mx (mx t149 t150) t151) t152) > 268435456 then (some 2) else (some 0))) = some r := H
  have A6 := Aside0.mk A60
  clear A60
  replace H := Option.bind_eq_some_iff.mp H
  obtain ⟨t152, A70, H⟩ := H
  replace H : (if (mx (mx (mx t149 t150) t151) t152) > 268435456 then (some 2) else (some 0)) = some r := H
  have A7 := Aside0.mk A70
  clear A70
  obtain ⟨ji8, hji8⟩ : ∃ j_ : Int, (mx t149 t150) = j_ := ⟨_, rfl⟩
  replace H : (if (mx (mx (ji8) t151) t152) > 268435456 then (some 2) else (some 0)) = some r := by first | (rw [hji8] at H; exact H) | (simp only [hji8] at H ⊢; exact H)
  (try rw [hji8] at A2)
  (try rw [hji8] at A4)
  (try rw [hji8] at A5)
  (try rw [hji8] at A6)
  (try rw [hji8] at A7)
  have hji8_ : (if t149 < t150 then t150 else t149) = ji8 := hji8
  obtain ⟨ji9, hji9⟩ : ∃ j_ : Int, (mx (ji8) t151) = j_ := ⟨_, rfl⟩
  replace H : (if (mx (ji9) t152) > 268435456 then (some 2) else (some 0)) = some r := by first | (rw [hji9] at H; exact H) | (simp only [hji9] at H ⊢; exact H)
  (try rw [hji9] at A2)
  (try rw [hji9] at A4)
  (try rw [hji9] at A5)
  (try rw [hji9] at A6)
  (try rw [hji9] at A7)
  have hji9_ : (if (ji8) < t151 then t151 else (ji8)) = ji9 := hji9
  obtain ⟨ji10, hji10⟩ : ∃ j_ : Int, (mx (ji9) t152) = j_ := ⟨_, rfl⟩
  replace H : (if (ji10) > 268435456 then (some 2) else (some 0)) = some r := by first | (rw [hji10] at H; exact H) | (simp only [hji10] at H ⊢; exact H)
  (try rw [hji10] at A2)
  (try rw [hji10] at A4)
  (try rw [hji10] at A5)
  (try rw [hji10] at A6)
  (try rw [hji10] at A7)
  have hji10_ : (if (ji9) < t152 then t152 else (ji9)) = ji10 := hji10
  by_cases c11 : (ji10) > 268435456
  ·rw [if_pos c11] at H
   have c11b0 : decide (268435456 < (ji10)) = true := decide_eq_true c11
   clear c11
   obtain rfl := Option.some.inj H
   go_enter Try.func67, Try.ntmps67
   try go_wp2_with (first | ((with_reducible refine gate_dst (N := 1) rfl ?_); refine box_event (by rfl) (N := 1) (by rfl) (cs := #[.int .i64 a0_0, .int .i64 a0_1, .int .i64 a0_2, .int .i64 a0_3]) (t := 31) zq4 ?_; intro gb144 hg w12 hbox hb; have BK144 := Aside0.mk (hbox); have GW144 := zgs HB hg; have GE144 := zgs HB hg; replace HB := zbs HB hb; clear hb hbox hg; obtain ⟨hcz13_0, hcz13_1, hcz13_2, hcz13_3, hfz13_0, hfz13_1, hfz13_2, hfz13_3⟩ := zce4 BK144.out) | ((with_reducible refine gate_dst (N := 8) rfl ?_); refine Kd.R_lit k27 _ 27 (by rfl) (N := 8) (by rfl) (xs := ([(⟨a0_0, a0_1⟩ : S27), (⟨a0_2, a0_3⟩ : S27)] : List (S27))) (inner := [.int .i64 a0_0, .int .i64 a0_1, .int .i64 a0_2, .int .i64 a0_3]) (ok := fun _ => True) (okp := fun _ => True) zq4 zq30 (fun _ hk => hk) trivial (Below.refl _ _) (Nat.le_refl _) (by simp) ?_; intro v146 w14 ho15 hb hg_ hnew_; clear hg_ hnew_; (first | rw [← Ny145.out] at ho15 | (simp only [Int.reduceToNat] at ho15; rw [← Ny145.out] at ho15)); have HO147 := Aside0.mk (Kd.R_lower ho15 (below_size zbz)); replace BK144 := zbb BK144 hb; replace HB := zbs HB hb; clear hb ho15; obtain ⟨Ao16, co16, eo16⟩ := Kd.R_slice HO147.out; subst eo16) | ((with_reducible refine gate_callee (f := 116) rfl ?_); refine goesL_ (some 9) rfl rfl Try.func116 zq1 rfl #[.slice Ao16 y145.length co16] rfl zq6 ?_; (with_reducible refine (bound_check.calls k _ _ y145 t148 _ ?side1 ?side2 A2.out).mono ?_); (case side1 => repeat (first | exact (Kd.R_reads' HO147.out).2.2 | (with_reducible refine Kd.C_alloc ?_ _) | (with_reducible refine Kd.C_drewN ?_ _) | (with_reducible refine Kd.C_drew ?_))); (case side2 => exact (Kd.R_reads' HO147.out).2.1); rintro e w17 ⟨rfl, hb⟩; refine ⟨_, rfl, ?_⟩; replace HO147 := zrb HO147 hb; replace BK144 := zbb BK144 hb; replace HB := zbs HB hb; (try clear hb); (try clear hb2); (try clear hk); (try clear hi)))
   replace HO147 := Aside0.mk (Kd.R_drew HO147.out)
   replace BK144 := Aside0.mk (blk_drew BK144.out)
   replace HB := Aside0.mk (below_drew1 HB.out)
   refine start_ (n := 18) (S := fun w' => w'.cell? ⟨gb144, 0, none⟩ = some (.int .i64 a0_0) ∧ w'.cell? ⟨gb144, 1, none⟩ = some (.int .i64 a0_1) ∧ w'.cell? ⟨gb144, 2, none⟩ = some (.int .i64 a0_2) ∧ w'.cell? ⟨gb144, 3, none⟩ = some (.int .i64 a0_3)) (ds := []) #[false, false, false, false, false, false, false, false, false, false, false, false, false, false, false, false, false, false] zq1 rfl rfl (zcs4 BK144.out) (fun hHeld => ?_); refine with_tabW bound_CheckBox.tab4 bound_CheckBox.bits4 (fun HT_ HW_ => ?_)
   generalize w17.drew = w18 at HO147 BK144 HB hHeld ⊢
   refine zpz (i := 0) (N := some 13) (any_of HT_.out zq1) ?_
   refine zpz (i := 1) (N := some 14) (any_of HT_.out zq1) ?_
   refine zpz (i := 4) (N := some 17) (any_of HT_.out zq1) ?_
   refine zpz (i := 5) (N := some 18) (any_of HT_.out zq1) ?_
   refine zpz (i := 8) (N := some 21) (any_of HT_.out zq1) ?_
   refine zpz (i := 9) (N := some 22) (any_of HT_.out zq1) ?_
   refine zpz (i := 12) (N := some 25) (any_of HT_.out zq1) ?_
   refine zpz (i := 13) (N := some 26) (any_of HT_.out zq1) ?_
   refine ztz (i := 2) (N := some 15) (take_ofW HT_.out HW_.out zq1) hHeld ?_
   refine ztz (i := 6) (N := some 19) (take_ofW HT_.out HW_.out zq1) hHeld ?_
   refine ztz (i := 10) (N := some 23) (take_ofW HT_.out HW_.out zq1) hHeld ?_
   refine ztz (i := 14) (N := some 27) (take_ofW HT_.out HW_.out zq1) hHeld ?_
   refine one_ (i := 3) (N := some 16) #[true, true, true, true, true, true, true, false, true, true, true, false, true, true, true, false, false, false] rfl rfl (one_of HT_.out zq1) (by decide) (fun K hK => ?_)
   refine goes_ Try.func117 zq1 rfl #[.int .i64 a0_0] (by rfl) rfl rfl zq6 ?_
   with_reducible refine (bound_amount.calls a0_0 t149 _ A4.out).mono ?_
   rintro e w19 ⟨rfl, hb⟩
   refine ⟨_, rfl, ?_⟩
   replace HO147 := zrb HO147 hb
   replace BK144 := zbb BK144 hb
   replace HB := zbs HB hb
   (try clear hb)
   (try clear hb2)
   (try clear hk)
   (try clear hi)
   refine hK.out _ _ (zcs4 BK144.out) (fun hHeld => ?_)
   clear hK K
   refine norm_ zq20 ?_
   refine one_ (i := 7) (N := some 20) #[true, true, true, true, true, true, true, true, true, true, true, false, true, true, true, false, false, false] rfl rfl (one_of HT_.out zq1) (by decide) (fun K hK => ?_)
   refine goes_ Try.func117 zq1 rfl #[.int .i64 a0_1] (by rfl) rfl rfl zq6 ?_
   with_reducible refine (bound_amount.calls a0_1 t150 _ A5.out).mono ?_
   rintro e w20 ⟨rfl, hb⟩
   refine ⟨_, rfl, ?_⟩
   replace HO147 := zrb HO147 hb
   replace BK144 := zbb BK144 hb
   replace HB := zbs HB hb
   (try clear hb)
   (try clear hb2)
   (try clear hk)
   (try clear hi)
   refine hK.out _ _ (zcs4 BK144.out) (fun hHeld => ?_)
   clear hK K
   refine norm_ zq31 ?_
   refine one_ (i := 11) (N := some 24) #[true, true, true, true, true, true, true, true, true, true, true, true, true, true, true, false, false, false] rfl rfl (one_of HT_.out zq1) (by decide) (fun K hK => ?_)
   refine goes_ Try.func117 zq1 rfl #[.int .i64 a0_2] (by rfl) rfl rfl zq6 ?_
   with_reducible refine (bound_amount.calls a0_2 t151 _ A6.out).mono ?_
   rintro e w21 ⟨rfl, hb⟩
   refine ⟨_, rfl, ?_⟩
   replace HO147 := zrb HO147 hb
   replace BK144 := zbb BK144 hb
   replace HB := zbs HB hb
   (try clear hb)
   (try clear hb2)
   (try clear hk)
   (try clear hi)
   refine hK.out _ _ (zcs4 BK144.out) (fun hHeld => ?_)
   clear hK K
   refine norm_ zq32 ?_
   refine one_ (i := 15) (N := some 28) #[true, true, true, true, true, true, true, true, true, true, true, true, true, true, true, true, false, false] rfl rfl (one_of HT_.out zq1) (by decide) (fun K hK => ?_)
   refine goes_ Try.func117 zq1 rfl #[.int .i64 a0_3] (by rfl) rfl rfl zq6 ?_
   with_reducible refine (bound_amount.calls a0_3 t152 _ A7.out).mono ?_
   rintro e w22 ⟨rfl, hb⟩
   refine ⟨_, rfl, ?_⟩
   replace HO147 := zrb HO147 hb
   replace BK144 := zbb BK144 hb
   replace HB := zbs HB hb
   (try clear hb)
   (try clear hb2)
   (try clear hk)
   (try clear hi)
   refine hK.out _ _ (zcs4 BK144.out) (fun hHeld => ?_)
   clear hK K
   refine norm_ zq33 ?_
   refine zpz (i := 16) (N := some 29) (any_of HT_.out zq1) ?_
   refine zpz (i := 17) (N := some 30) (any_of HT_.out zq1) ?_
   refine done_ (done_of HT_.out zq1) ?_
   try go_wp2
   go_ret
   exact ⟨zq34, zbz⟩
  ·rw [if_neg c11] at H
   have c11b0 : decide (268435456 < (ji10)) = false := decide_eq_false c11
   clear c11
   obtain rfl := Option.some.inj H
   go_enter Try.func67, Try.ntmps67
   try go_wp2_with (first | ((with_reducible refine gate_dst (N := 1) rfl ?_); refine box_event (by rfl) (N := 1) (by rfl) (cs := #[.int .i64 a0_0, .int .i64 a0_1, .int .i64 a0_2, .int .i64 a0_3]) (t := 31) zq4 ?_; intro gb144 hg w23 hbox hb; have BK144 := Aside0.mk (hbox); have GW144 := zgs HB hg; have GE144 := zgs HB hg; replace HB := zbs HB hb; clear hb hbox hg; obtain ⟨hcz24_0, hcz24_1, hcz24_2, hcz24_3, hfz24_0, hfz24_1, hfz24_2, hfz24_3⟩ := zce4 BK144.out) | ((with_reducible refine gate_dst (N := 8) rfl ?_); refine Kd.R_lit k27 _ 27 (by rfl) (N := 8) (by rfl) (xs := ([(⟨a0_0, a0_1⟩ : S27), (⟨a0_2, a0_3⟩ : S27)] : List (S27))) (inner := [.int .i64 a0_0, .int .i64 a0_1, .int .i64 a0_2, .int .i64 a0_3]) (ok := fun _ => True) (okp := fun _ => True) zq4 zq30 (fun _ hk => hk) trivial (Below.refl _ _) (Nat.le_refl _) (by simp) ?_; intro v146 w25 ho26 hb hg_ hnew_; clear hg_ hnew_; (first | rw [← Ny145.out] at ho26 | (simp only [Int.reduceToNat] at ho26; rw [← Ny145.out] at ho26)); have HO147 := Aside0.mk (Kd.R_lower ho26 (below_size zbz)); replace BK144 := zbb BK144 hb; replace HB := zbs HB hb; clear hb ho26; obtain ⟨Ao27, co27, eo27⟩ := Kd.R_slice HO147.out; subst eo27) | ((with_reducible refine gate_callee (f := 116) rfl ?_); refine goesL_ (some 9) rfl rfl Try.func116 zq1 rfl #[.slice Ao27 y145.length co27] rfl zq6 ?_; (with_reducible refine (bound_check.calls k _ _ y145 t148 _ ?side1 ?side2 A2.out).mono ?_); (case side1 => repeat (first | exact (Kd.R_reads' HO147.out).2.2 | (with_reducible refine Kd.C_alloc ?_ _) | (with_reducible refine Kd.C_drewN ?_ _) | (with_reducible refine Kd.C_drew ?_))); (case side2 => exact (Kd.R_reads' HO147.out).2.1); rintro e w28 ⟨rfl, hb⟩; refine ⟨_, rfl, ?_⟩; replace HO147 := zrb HO147 hb; replace BK144 := zbb BK144 hb; replace HB := zbs HB hb; (try clear hb); (try clear hb2); (try clear hk); (try clear hi)))
   replace HO147 := Aside0.mk (Kd.R_drew HO147.out)
   replace BK144 := Aside0.mk (blk_drew BK144.out)
   replace HB := Aside0.mk (below_drew1 HB.out)
   refine start_ (n := 18) (S := fun w' => w'.cell? ⟨gb144, 0, none⟩ = some (.int .i64 a0_0) ∧ w'.cell? ⟨gb144, 1, none⟩ = some (.int .i64 a0_1) ∧ w'.cell? ⟨gb144, 2, none⟩ = some (.int .i64 a0_2) ∧ w'.cell? ⟨gb144, 3, none⟩ = some (.int .i64 a0_3)) (ds := []) #[false, false, false, false, false, false, false, false, false, false, false, false, false, false, false, false, false, false] zq1 rfl rfl (zcs4 BK144.out) (fun hHeld => ?_); refine with_tabW bound_CheckBox.tab4 bound_CheckBox.bits4 (fun HT_ HW_ => ?_)
   generalize w28.drew = w29 at HO147 BK144 HB hHeld ⊢
   refine zpz (i := 0) (N := some 13) (any_of HT_.out zq1) ?_
   refine zpz (i := 1) (N := some 14) (any_of HT_.out zq1) ?_
   refine zpz (i := 4) (N := some 17) (any_of HT_.out zq1) ?_
   refine zpz (i := 5) (N := some 18) (any_of HT_.out zq1) ?_
   refine zpz (i := 8) (N := some 21) (any_of HT_.out zq1) ?_
   refine zpz (i := 9) (N := some 22) (any_of HT_.out zq1) ?_
   refine zpz (i := 12) (N := some 25) (any_of HT_.out zq1) ?_
   refine zpz (i := 13) (N := some 26) (any_of HT_.out zq1) ?_
   refine ztz (i := 2) (N := some 15) (take_ofW HT_.out HW_.out zq1) hHeld ?_
   refine ztz (i := 6) (N := some 19) (take_ofW HT_.out HW_.out zq1) hHeld ?_
   refine ztz (i := 10) (N := some 23) (take_ofW HT_.out HW_.out zq1) hHeld ?_
   refine ztz (i := 14) (N := some 27) (take_ofW HT_.out HW_.out zq1) hHeld ?_
   refine one_ (i := 3) (N := some 16) #[true, true, true, true, true, true, true, false, true, true, true, false, true, true, true, false, false, false] rfl rfl (one_of HT_.out zq1) (by decide) (fun K hK => ?_)
   refine goes_ Try.func117 zq1 rfl #[.int .i64 a0_0] (by rfl) rfl rfl zq6 ?_
   with_reducible refine (bound_amount.calls a0_0 t149 _ A4.out).mono ?_
   rintro e w30 ⟨rfl, hb⟩
   refine ⟨_, rfl, ?_⟩
   replace HO147 := zrb HO147 hb
   replace BK144 := zbb BK144 hb
   replace HB := zbs HB hb
   (try clear hb)
   (try clear hb2)
   (try clear hk)
   (try clear hi)
   refine hK.out _ _ (zcs4 BK144.out) (fun hHeld => ?_)
   clear hK K
   refine norm_ zq20 ?_
   refine one_ (i := 7) (N := some 20) #[true, true, true, true, true, true, true, true, true, true, true, false, true, true, true, false, false, false] rfl rfl (one_of HT_.out zq1) (by decide) (fun K hK => ?_)
   refine goes_ Try.func117 zq1 rfl #[.int .i64 a0_1] (by rfl) rfl rfl zq6 ?_
   with_reducible refine (bound_amount.calls a0_1 t150 _ A5.out).mono ?_
   rintro e w31 ⟨rfl, hb⟩
   refine ⟨_, rfl, ?_⟩
   replace HO147 := zrb HO147 hb
   replace BK144 := zbb BK144 hb
   replace HB := zbs HB hb
   (try clear hb)
   (try clear hb2)
   (try clear hk)
   (try clear hi)
   refine hK.out _ _ (zcs4 BK144.out) (fun hHeld => ?_)
   clear hK K
   refine norm_ zq31 ?_
   refine one_ (i := 11) (N := some 24) #[true, true, true, true, true, true, true, true, true, true, true, true, true, true, true, false, false, false] rfl rfl (one_of HT_.out zq1) (by decide) (fun K hK => ?_)
   refine goes_ Try.func117 zq1 rfl #[.int .i64 a0_2] (by rfl) rfl rfl zq6 ?_
   with_reducible refine (bound_amount.calls a0_2 t151 _ A6.out).mono ?_
   rintro e w32 ⟨rfl, hb⟩
   refine ⟨_, rfl, ?_⟩
   replace HO147 := zrb HO147 hb
   replace BK144 := zbb BK144 hb
   replace HB := zbs HB hb
   (try clear hb)
   (try clear hb2)
   (try clear hk)
   (try clear hi)
   refine hK.out _ _ (zcs4 BK144.out) (fun hHeld => ?_)
   clear hK K
   refine norm_ zq32 ?_
   refine one_ (i := 15) (N := some 28) #[true, true, true, true, true, true, true, true, true, true, true, true, true, true, true, true, false, false] rfl rfl (one_of HT_.out zq1) (by decide) (fun K hK => ?_)
   refine goes_ Try.func117 zq1 rfl #[.int .i64 a0_3] (by rfl) rfl rfl zq6 ?_
   with_reducible refine (bound_amount.calls a0_3 t152 _ A7.out).mono ?_
   rintro e w33 ⟨rfl, hb⟩
   refine ⟨_, rfl, ?_⟩
   replace HO147 := zrb HO147 hb
   replace BK144 := zbb BK144 hb
   replace HB := zbs HB hb
   (try clear hb)
   (try clear hb2)
   (try clear hk)
   (try clear hi)
   refine hK.out _ _ (zcs4 BK144.out) (fun hHeld => ?_)
   clear hK K
   refine norm_ zq33 ?_
   refine zpz (i := 16) (N := some 29) (any_of HT_.out zq1) ?_
   refine zpz (i := 17) (N := some 30) (any_of HT_.out zq1) ?_
   refine done_ (done_of HT_.out zq1) ?_
   try go_wp2
   go_ret
   exact ⟨zq34, zbz⟩
 ·rw [if_neg c3] at H
  have c3b0 : (t148 == 0) = false := beq_eq_false_iff_ne.mpr c3
  have c3b1 : (t148 != 0) = true := bne_iff_ne.mpr c3
  obtain rfl := Option.some.inj H
  go_enter Try.func67, Try.ntmps67
  go_wp2_with (first | ((with_reducible refine gate_dst (N := 1) rfl ?_); refine box_event (by rfl) (N := 1) (by rfl) (cs := #[.int .i64 a0_0, .int .i64 a0_1, .int .i64 a0_2, .int .i64 a0_3]) (t := 31) zq4 ?_; intro gb144 hg w34 hbox hb; have BK144 := Aside0.mk (hbox); have GW144 := zgs HB hg; have GE144 := zgs HB hg; replace HB := zbs HB hb; clear hb hbox hg; obtain ⟨hcz35_0, hcz35_1, hcz35_2, hcz35_3, hfz35_0, hfz35_1, hfz35_2, hfz35_3⟩ := zce4 BK144.out) | ((with_reducible refine gate_dst (N := 8) rfl ?_); refine Kd.R_lit k27 _ 27 (by rfl) (N := 8) (by rfl) (xs := ([(⟨a0_0, a0_1⟩ : S27), (⟨a0_2, a0_3⟩ : S27)] : List (S27))) (inner := [.int .i64 a0_0, .int .i64 a0_1, .int .i64 a0_2, .int .i64 a0_3]) (ok := fun _ => True) (okp := fun _ => True) zq4 zq30 (fun _ hk => hk) trivial (Below.refl _ _) (Nat.le_refl _) (by simp) ?_; intro v146 w36 ho37 hb hg_ hnew_; clear hg_ hnew_; (first | rw [← Ny145.out] at ho37 | (simp only [Int.reduceToNat] at ho37; rw [← Ny145.out] at ho37)); have HO147 := Aside0.mk (Kd.R_lower ho37 (below_size zbz)); replace BK144 := zbb BK144 hb; replace HB := zbs HB hb; clear hb ho37; obtain ⟨Ao38, co38, eo38⟩ := Kd.R_slice HO147.out; subst eo38) | ((with_reducible refine gate_callee (f := 116) rfl ?_); refine goesL_ (some 9) rfl rfl Try.func116 zq1 rfl #[.slice Ao38 y145.length co38] rfl zq6 ?_; (with_reducible refine (bound_check.calls k _ _ y145 t148 _ ?side1 ?side2 A2.out).mono ?_); (case side1 => repeat (first | exact (Kd.R_reads' HO147.out).2.2 | (with_reducible refine Kd.C_alloc ?_ _) | (with_reducible refine Kd.C_drewN ?_ _) | (with_reducible refine Kd.C_drew ?_))); (case side2 => exact (Kd.R_reads' HO147.out).2.1); rintro e w39 ⟨rfl, hb⟩; refine ⟨_, rfl, ?_⟩; replace HO147 := zrb HO147 hb; replace BK144 := zbb BK144 hb; replace HB := zbs HB hb; (try clear hb); (try clear hb2); (try clear hk); (try clear hi)))
  go_ret
  exact ⟨zq5, zbz⟩

end Go.Proofs.Ytmhaiihjfgfaoaa.Pr
end
section
namespace Go.Proofs.Ytmhaiihjfgfaoaa.Pr
open Go.RowKit Go.Proofs.YtmhaiihjfgfaoaaW.PrintWords Go.Proofs.YtmhaiihjfgfaoaaW.PrintLast Go.Proofs.YtmhaiihjfgfaoaaW.PrintMore
attribute [local go_sem] max2_int min2_int max_two min_two max_four
set_option linter.unusedVariables false
set_option linter.unusedSimpArgs false

/-! ### glider_checkPlace: function 114 -/
def glider_checkPlace.f (k : Nat) (a0_0 : Int) (a0_1 : Int) (a0_2 : Int) (a0_3 : Int) (a1 : Int) : Option (Int) := (bound_CheckBox.f k a0_0 a0_1 a0_2 a0_3).bind fun t154 => (if t154 = 0 then ((glider_between.f a1 0 1073741824).bind fun t155 => (if t155 = true then (some 0) else (some 3))) else (some t154))
set_option maxHeartbeats 8000000 in
set_option maxRecDepth 100000 in
theorem glider_checkPlace.calls (k : Nat) (a0_0 : Int) (a0_1 : Int) (a0_2 : Int) (a0_3 : Int) (a1 : Int) (r : Int) (w : World) (h : glider_checkPlace.f k a0_0 a0_1 a0_2 a0_3 a1 = some r) :
  Calls Try.prog 114 #[.agg #[.int .i64 a0_0, .int .i64 a0_1, .int .i64 a0_2, .int .i64 a0_3], .int .i64 a1] w fun e w' => e = .returned (.int .i64 r) ∧ Below w.heap.size w w' := by
 have hu31 := Try.underlying31
 have HB := Aside0.mk (Below.refl w.heap.size w)
 have H : ((bound_CheckBox.f k a0_0 a0_1 a0_2 a0_3).bind fun t154 => (if t154 = 0 then ((glider_between.f a1 0 1073741824).bind fun t155 => (if t155 = true then (some 0) else (some 3))) else (some t154))) = some r := h
 clear h
 replace H := Option.bind_eq_some_iff.mp H
 obtain ⟨t154, A30, H⟩ := H
 replace H : (if t154 = 0 then ((glider_between.f a1 0 1073741824).bind fun t155 => (if t155 = true then (some 0) else (some 3))) else (some t154)) = some r := H
 have A3 := Aside0.mk A30
 clear A30
 by_cases c4 : t154 = 0
 ·rw [if_pos c4] at H
  have c4b0 : (t154 == 0) = true := beq_iff_eq.mpr c4
  have c4b1 : (t154 != 0) = false := bne_eq_false_iff_eq.mpr c4
  clear c4
  replace H := Option.bind_eq_some_iff.mp H
  obtain ⟨t155, A50, H⟩ := H
  replace H : (if t155 = true then (some 0) else (some 3)) = some r := H
  have A5 := Aside0.mk A50
  clear A50
  by_cases c6 : t155 = true
  ·subst c6
   have H1 : (some 0) = some r := by rw [if_pos rfl] at H; exact H
   clear H
   have H := H1
   clear H1
   obtain rfl := Option.some.inj H
   go_enter Try.func114, Try.ntmps114
   go_wp2_with (first | ((with_reducible refine gate_dst (N := 2) rfl ?_); refine box_event (by rfl) (N := 2) (by rfl) (cs := #[.int .i64 a0_0, .int .i64 a0_1, .int .i64 a0_2, .int .i64 a0_3]) (t := 31) zq4 ?_; intro gb153 hg w7 hbox hb; have BK153 := Aside0.mk (hbox); have GW153 := zgs HB hg; have GE153 := zgs HB hg; replace HB := zbs HB hb; clear hb hbox hg; obtain ⟨hcz8_0, hcz8_1, hcz8_2, hcz8_3, hfz8_0, hfz8_1, hfz8_2, hfz8_3⟩ := zce4 BK153.out) | ((with_reducible refine gate_callee (f := 67) rfl ?_); refine goesL_ (some 7) rfl rfl Try.func67 zq1 rfl #[.agg #[.int .i64 a0_0, .int .i64 a0_1, .int .i64 a0_2, .int .i64 a0_3]] rfl zq6 ?_; (with_reducible refine (bound_CheckBox.calls k a0_0 a0_1 a0_2 a0_3 t154 _ A3.out).mono ?_); rintro e w9 ⟨rfl, hb⟩; refine ⟨_, rfl, ?_⟩; replace BK153 := zbb BK153 hb; replace HB := zbs HB hb; (try clear hb); (try clear hb2); (try clear hk); (try clear hi)) | ((with_reducible refine gate_callee (f := 74) rfl ?_); refine goesL_ (some 12) rfl rfl Try.func74 zq1 rfl #[.int .i64 a1, .int .i64 0, .int .i64 1073741824] rfl zq6 ?_; (with_reducible refine (glider_between.calls a1 0 1073741824 true _ A5.out).mono ?_); rintro e w' ⟨rfl, ⟨nd, rfl⟩⟩; refine ⟨_, rfl, ?_⟩))
   go_ret
   exact ⟨zq5, zbz⟩
  ·replace c6 := Bool.eq_false_iff.mpr c6
   subst c6
   have H1 : (some 3) = some r := by rw [if_neg (show ¬ (false = true) by decide)] at H; exact H
   clear H
   have H := H1
   clear H1
   obtain rfl := Option.some.inj H
   go_enter Try.func114, Try.ntmps114
   go_wp2_with (first | ((with_reducible refine gate_dst (N := 2) rfl ?_); refine box_event (by rfl) (N := 2) (by rfl) (cs := #[.int .i64 a0_0, .int .i64 a0_1, .int .i64 a0_2, .int .i64 a0_3]) (t := 31) zq4 ?_; intro gb153 hg w10 hbox hb; have BK153 := Aside0.mk (hbox); have GW153 := zgs HB hg; have GE153 := zgs HB hg; replace HB := zbs HB hb; clear hb hbox hg; obtain ⟨hcz11_0, hcz11_1, hcz11_2, hcz11_3, hfz11_0, hfz11_1, hfz11_2, hfz11_3⟩ := zce4 BK153.out) | ((with_reducible refine gate_callee (f := 67) rfl ?_); refine goesL_ (some 7) rfl rfl Try.func67 zq1 rfl #[.agg #[.int .i64 a0_0, .int .i64 a0_1, .int .i64 a0_2, .int .i64 a0_3]] rfl zq6 ?_; (with_reducible refine (bound_CheckBox.calls k a0_0 a0_1 a0_2 a0_3 t154 _ A3.out).mono ?_); rintro e w12 ⟨rfl, hb⟩; refine ⟨_, rfl, ?_⟩; replace BK153 := zbb BK153 hb; replace HB := zbs HB hb; (try clear hb); (try clear hb2); (try clear hk); (try clear hi)) | ((with_reducible refine gate_callee (f := 74) rfl ?_); refine goesL_ (some 12) rfl rfl Try.func74 zq1 rfl #[.int .i64 a1, .int .i64 0, .int .i64 1073741824] rfl zq6 ?_; (with_reducible refine (glider_between.calls a1 0 1073741824 false _ A5.out).mono ?_); rintro e w' ⟨rfl, ⟨nd, rfl⟩⟩; refine ⟨_, rfl, ?_⟩))
   go_ret
   exact ⟨zq5, zbz⟩
 ·rw [if_neg c4] at H
  have c4b0 : (t154 == 0) = false := beq_eq_false_iff_ne.mpr c4
  have c4b1 : (t154 != 0) = true := bne_iff_ne.mpr c4
  obtain rfl := Option.some.inj H
  go_enter Try.func114, Try.ntmps114
  go_wp2_with (first | ((with_reducible refine gate_dst (N := 2) rfl ?_); refine box_event (by rfl) (N := 2) (by rfl) (cs := #[.int .i64 a0_0, .int .i64 a0_1, .int .i64 a0_2, .int .i64 a0_3]) (t := 31) zq4 ?_; intro gb153 hg w13 hbox hb; have BK153 := Aside0.mk (hbox); have GW153 := zgs HB hg; have GE153 := zgs HB hg; replace HB := zbs HB hb; clear hb hbox hg; obtain ⟨hcz14_0, hcz14_1, hcz14_2, hcz14_3, hfz14_0, hfz14_1, hfz14_2, hfz14_3⟩ := zce4 BK153.out) | ((with_reducible refine gate_callee (f := 67) rfl ?_); refine goesL_ (some 7) rfl rfl Try.func67 zq1 rfl #[.agg #[.int .i64 a0_0, .int .i64 a0_1, .int .i64 a0_2, .int .i64 a0_3]] rfl zq6 ?_; (with_reducible refine (bound_CheckBox.calls k a0_0 a0_1 a0_2 a0_3 t154 _ A3.out).mono ?_); rintro e w15 ⟨rfl, hb⟩; refine ⟨_, rfl, ?_⟩; replace BK153 := zbb BK153 hb; replace HB := zbs HB hb; (try clear hb); (try clear hb2); (try clear hk); (try clear hi)))
  go_ret
  exact ⟨zq5, zbz⟩

end Go.Proofs.Ytmhaiihjfgfaoaa.Pr
end
section
namespace Go.Proofs.Ytmhaiihjfgfaoaa.Pr
open Go.RowKit Go.Proofs.YtmhaiihjfgfaoaaW.PrintWords Go.Proofs.YtmhaiihjfgfaoaaW.PrintLast Go.Proofs.YtmhaiihjfgfaoaaW.PrintMore
attribute [local go_sem] max2_int min2_int max_two min_two max_four
set_option linter.unusedVariables false
set_option linter.unusedSimpArgs false

/-! ### glider_checkCourses: function 65 -/
def glider_checkCourses.l0 : Nat → Int → List (S33) → Int → Int → Option (Int)
 | 0, _, _, _, _ => none
 | k + 1, x1, x10, x11, x12 => if x12 < x11 then (if 0 ≤ x12 then (if x12 < (x10.length : Int) then (if ((rd_T33 x10 x12).f0) < 0 then (some 2) else (if ((rd_T33 x10 x12).f0) ≥ 9 then (some 2) else (if ((rd_T33 x10 x12).f1) < 0 then (some 2) else (if x1 ≥ 0 then (if ((rd_T33 x10 x12).f1) ≥ x1 then (some 2) else (glider_checkCourses.l0 k x1 x10 x11 (wrap64 (x12 + 1)))) else (glider_checkCourses.l0 k x1 x10 x11 (wrap64 (x12 + 1))))))) else (none)) else (none)) else (some 0)
def glider_checkCourses.f (k : Nat) (l0 : List (S33)) (a1 : Int) : Option (Int) := if (l0.length : Int) > 64 then (some 6) else (glider_checkCourses.l0 k a1 l0 (l0.length : Int) 0)
theorem glider_checkCourses.mono_l : ∀ k, (∀ y0 y1 y2 y3, LeO (glider_checkCourses.l0 k y0 y1 y2 y3) (glider_checkCourses.l0 (k + 1) y0 y1 y2 y3))
 | 0 => fun _ _ _ _ r h => by simp [glider_checkCourses.l0] at h
 | k + 1 => by
  have ih0 := glider_checkCourses.mono_l k
  ·intro y0 y1 y2 y3
   unfold glider_checkCourses.l0
   repeat' first
   | (with_reducible exact ih0 _ _ _ _)
   | (with_reducible exact LeO.refl _)
   | (with_reducible exact LeO.none _)
   | (with_reducible refine LeO.ite ?_ ?_)
   | (with_reducible refine LeO.bind ?_ (fun _ => ?_))
   | exact ih0 _ _ _ _
   | exact LeO.none _
   | refine LeO.ite ?_ ?_
   | refine LeO.bind ?_ (fun _ => ?_)
theorem glider_checkCourses.mono : ∀ a0 a1 k, LeO (glider_checkCourses.f k a0 a1) (glider_checkCourses.f (k + 1) a0 a1) := by
 intro a0 a1 k
 have ih0 := glider_checkCourses.mono_l k
 unfold glider_checkCourses.f
 repeat' first
   | (with_reducible exact ih0 _ _ _ _)
   | (with_reducible exact LeO.refl _)
   | (with_reducible exact LeO.none _)
   | (with_reducible refine LeO.ite ?_ ?_)
   | (with_reducible refine LeO.bind ?_ (fun _ => ?_))
   | exact ih0 _ _ _ _
   | exact LeO.none _
   | refine LeO.ite ?_ ?_
   | refine LeO.bind ?_ (fun _ => ?_)
set_option maxHeartbeats 8000000 in
set_option maxRecDepth 100000 in
theorem glider_checkCourses.calls (k : Nat) (A0 : Option Addr) (c0 : Nat) (l0 : List (S33)) (a1 : Int) (r : Int) (w : World) (hr0 : Kd.C k33 w A0 l0.length l0) (hc0 : l0.length ≤ c0) (h : glider_checkCourses.f k l0 a1 = some r) :
  Calls Try.prog 65 #[.slice A0 l0.length c0, .int .i64 a1] w fun e w' => e = .returned (.int .i64 r) ∧ Below w.heap.size w w' := by
 have hu33 := Try.underlying33
 have HR0 := Aside0.mk hr0
 have HC0 := Aside0.mk hc0
 clear hr0 hc0
 have HB := Aside0.mk (Below.refl w.heap.size w)
 have H : (if (l0.length : Int) > 64 then (some 6) else (glider_checkCourses.l0 k a1 l0 (l0.length : Int) 0)) = some r := h
 clear h
 by_cases c3 : (l0.length : Int) > 64
 ·rw [if_pos c3] at H
  have c3b0 : decide (64 < (l0.length : Int)) = true := decide_eq_true c3
  have c3b1 : decide (64 < l0.length) = true := decide_eq_true (by omega)
  clear c3
  obtain rfl := Option.some.inj H
  go_enter Try.func65, Try.ntmps65
  go_wp2
  go_ret
  exact ⟨zq5, zbz⟩
 ·rw [if_neg c3] at H
  have c3b0 : decide (64 < (l0.length : Int)) = false := decide_eq_false c3
  have c3b1 : decide (64 < l0.length) = false := decide_eq_false (by omega)
  clear c3
  have H' := Aside0.mk H
  clear H
  go_enter Try.func65, Try.ntmps65
  go_wp2
  go_loopg [12] k (fun kq v12 w' => ∃ (x12_1 : Int), v12 = .int .i64 x12_1 ∧ Aside0 (glider_checkCourses.l0 kq a1 l0 (l0.length : Int) x12_1 = some r) ∧ Aside0 (kq ≤ k) ∧ Aside0 (Below w.heap.size w w'))
  case atStart => exact ⟨(0), zq2, H', ⟨Nat.le_refl _⟩, ⟨zbz⟩⟩
  case round =>
   clear H'
   try clear p2
   try clear c3
   try clear c3b0
   try clear c3b1
   obtain ⟨x12_1, rfl, HA, HK1, HB⟩ := hrel
   cases gk with
   | zero => exact absurd HA.out (by simp [glider_checkCourses.l0])
   | succ k1 =>
    have H := HA.out
    clear HA
    simp only [glider_checkCourses.l0] at H
    by_cases c4 : x12_1 < (l0.length : Int)
    ·rw [if_pos c4] at H
     have c4b0 : decide (x12_1 < (l0.length : Int)) = true := decide_eq_true c4
     clear c4
     by_cases c5 : 0 ≤ x12_1
     ·rw [if_pos c5] at H
      have c5b0 : decide (0 ≤ x12_1) = true := decide_eq_true c5
      clear c5
      by_cases c6 : x12_1 < (l0.length : Int)
      ·rw [if_pos c6] at H
       have c6b0 : decide (x12_1 < (l0.length : Int)) = true := decide_eq_true c6
       clear c6
       by_cases c7 : ((rd_T33 l0 x12_1).f0) < 0
       ·rw [if_pos c7] at H
        have c7b0 : decide (((rd_T33 l0 x12_1).f0) < 0) = true := decide_eq_true c7
        clear c7
        obtain rfl := Option.some.inj H
        have p156 : 0 ≤ (x12_1 : Int) := of_decide_eq_true zq3
        have q156 : x12_1 < (l0.length : Int) := of_decide_eq_true zq3
        obtain ⟨ad156, e156, hx156_0, hx156_1⟩ := at_T33 HR0.out x12_1 p156 q156
        cases e156
        replace hx156_0 := (HB.out.cell (World.block_lt_of_cell? w _ hx156_0)).trans hx156_0
        replace hx156_1 := (HB.out.cell (World.block_lt_of_cell? w _ hx156_1)).trans hx156_1
        replace p156 := eq_true p156
        replace q156 := eq_true q156
        go_wp2_with (first | ((with_reducible refine gate_dst (N := 6) rfl ?_); refine box_event (by rfl) (N := 6) (by rfl) (cs := #[.int .i64 0, .int .i64 0]) (t := 33) zq4 ?_; intro gb157 hg w8 hbox hb; have BK157 := Aside0.mk (hbox); have GW157 := zgs HB hg; have GE157 := zgs HB hg; replace HB := zbs HB hb; clear hb hbox hg; obtain ⟨hcz9_0, hcz9_1, hfz9_0, hfz9_1⟩ := zce2 BK157.out))
        go_ret
        exact ⟨zq5, zbz⟩
       ·rw [if_neg c7] at H
        have c7b0 : decide (((rd_T33 l0 x12_1).f0) < 0) = false := decide_eq_false c7
        clear c7
        by_cases c10 : ((rd_T33 l0 x12_1).f0) ≥ 9
        ·rw [if_pos c10] at H
         have c10b0 : decide (9 ≤ ((rd_T33 l0 x12_1).f0)) = true := decide_eq_true c10
         clear c10
         obtain rfl := Option.some.inj H
         have p156 : 0 ≤ (x12_1 : Int) := of_decide_eq_true zq3
         have q156 : x12_1 < (l0.length : Int) := of_decide_eq_true zq3
         obtain ⟨ad156, e156, hx156_0, hx156_1⟩ := at_T33 HR0.out x12_1 p156 q156
         cases e156
         replace hx156_0 := (HB.out.cell (World.block_lt_of_cell? w _ hx156_0)).trans hx156_0
         replace hx156_1 := (HB.out.cell (World.block_lt_of_cell? w _ hx156_1)).trans hx156_1
         replace p156 := eq_true p156
         replace q156 := eq_true q156
         go_wp2_with (first | ((with_reducible refine gate_dst (N := 6) rfl ?_); refine box_event (by rfl) (N := 6) (by rfl) (cs := #[.int .i64 0, .int .i64 0]) (t := 33) zq4 ?_; intro gb157 hg w11 hbox hb; have BK157 := Aside0.mk (hbox); have GW157 := zgs HB hg; have GE157 := zgs HB hg; replace HB := zbs HB hb; clear hb hbox hg; obtain ⟨hcz12_0, hcz12_1, hfz12_0, hfz12_1⟩ := zce2 BK157.out))
         go_ret
         exact ⟨zq5, zbz⟩
        ·rw [if_neg c10] at H
         have c10b0 : decide (9 ≤ ((rd_T33 l0 x12_1).f0)) = false := decide_eq_false c10
         clear c10
         by_cases c13 : ((rd_T33 l0 x12_1).f1) < 0
         ·rw [if_pos c13] at H
          have c13b0 : decide (((rd_T33 l0 x12_1).f1) < 0) = true := decide_eq_true c13
          clear c13
          obtain rfl := Option.some.inj H
          have p156 : 0 ≤ (x12_1 : Int) := of_decide_eq_true zq3
          have q156 : x12_1 < (l0.length : Int) := of_decide_eq_true zq3
          obtain ⟨ad156, e156, hx156_0, hx156_1⟩ := at_T33 HR0.out x12_1 p156 q156
          cases e156
          replace hx156_0 := (HB.out.cell (World.block_lt_of_cell? w _ hx156_0)).trans hx156_0
          replace hx156_1 := (HB.out.cell (World.block_lt_of_cell? w _ hx156_1)).trans hx156_1
          replace p156 := eq_true p156
          replace q156 := eq_true q156
          go_wp2_with (first | ((with_reducible refine gate_dst (N := 6) rfl ?_); refine box_event (by rfl) (N := 6) (by rfl) (cs := #[.int .i64 0, .int .i64 0]) (t := 33) zq4 ?_; intro gb157 hg w14 hbox hb; have BK157 := Aside0.mk (hbox); have GW157 := zgs HB hg; have GE157 := zgs HB hg; replace HB := zbs HB hb; clear hb hbox hg; obtain ⟨hcz15_0, hcz15_1, hfz15_0, hfz15_1⟩ := zce2 BK157.out))
          go_ret
          exact ⟨zq5, zbz⟩
         ·rw [if_neg c13] at H
          have c13b0 : decide (((rd_T33 l0 x12_1).f1) < 0) = false := decide_eq_false c13
          clear c13
          by_cases c16 : a1 ≥ 0
          ·rw [if_pos c16] at H
           have c16b0 : decide (0 ≤ a1) = true := decide_eq_true c16
           clear c16
           by_cases c17 : ((rd_T33 l0 x12_1).f1) ≥ a1
           ·rw [if_pos c17] at H
            have c17b0 : decide (a1 ≤ ((rd_T33 l0 x12_1).f1)) = true := decide_eq_true c17
            clear c17
            obtain rfl := Option.some.inj H
            have p156 : 0 ≤ (x12_1 : Int) := of_decide_eq_true zq3
            have q156 : x12_1 < (l0.length : Int) := of_decide_eq_true zq3
            obtain ⟨ad156, e156, hx156_0, hx156_1⟩ := at_T33 HR0.out x12_1 p156 q156
            cases e156
            replace hx156_0 := (HB.out.cell (World.block_lt_of_cell? w _ hx156_0)).trans hx156_0
            replace hx156_1 := (HB.out.cell (World.block_lt_of_cell? w _ hx156_1)).trans hx156_1
            replace p156 := eq_true p156
            replace q156 := eq_true q156
            go_wp2_with (first | ((with_reducible refine gate_dst (N := 6) rfl ?_); refine box_event (by rfl) (N := 6) (by rfl) (cs := #[.int .i64 0, .int .i64 0]) (t := 33) zq4 ?_; intro gb157 hg w18 hbox hb; have BK157 := Aside0.mk (hbox); have GW157 := zgs HB hg; have GE157 := zgs HB hg; replace HB := zbs HB hb; clear hb hbox hg; obtain ⟨hcz19_0, hcz19_1, hfz19_0, hfz19_1⟩ := zce2 BK157.out))
            go_ret
            exact ⟨zq5, zbz⟩
           ·rw [if_neg c17] at H
            have c17b0 : decide (a1 ≤ ((rd_T33 l0 x12_1).f1)) = false := decide_eq_false c17
            clear c17
            have H' := Aside0.mk H
            clear H
            have p156 : 0 ≤ (x12_1 : Int) := of_decide_eq_true zq3
            have q156 : x12_1 < (l0.length : Int) := of_decide_eq_true zq3
            obtain ⟨ad156, e156, hx156_0, hx156_1⟩ := at_T33 HR0.out x12_1 p156 q156
            cases e156
            replace hx156_0 := (HB.out.cell (World.block_lt_of_cell? w _ hx156_0)).trans hx156_0
            replace hx156_1 := (HB.out.cell (World.block_lt_of_cell? w _ hx156_1)).trans hx156_1
            replace p156 := eq_true p156
            replace q156 := eq_true q156
            go_wp2_with (first | ((with_reducible refine gate_dst (N := 6) rfl ?_); refine box_event (by rfl) (N := 6) (by rfl) (cs := #[.int .i64 0, .int .i64 0]) (t := 33) zq4 ?_; intro gb157 hg w20 hbox hb; have BK157 := Aside0.mk (hbox); have GW157 := zgs HB hg; have GE157 := zgs HB hg; replace HB := zbs HB hb; clear hb hbox hg; obtain ⟨hcz21_0, hcz21_1, hfz21_0, hfz21_1⟩ := zce2 BK157.out))
            go_roundg k1
            case measure => have := HK1.out; omega
            case rel => exact ⟨(wrap64 (x12_1 + 1)), zq2, H', ⟨by have := HK1.out; omega⟩, ⟨zbz⟩⟩
          ·rw [if_neg c16] at H
           have c16b0 : decide (0 ≤ a1) = false := decide_eq_false c16
           clear c16
           have H' := Aside0.mk H
           clear H
           have p156 : 0 ≤ (x12_1 : Int) := of_decide_eq_true zq3
           have q156 : x12_1 < (l0.length : Int) := of_decide_eq_true zq3
           obtain ⟨ad156, e156, hx156_0, hx156_1⟩ := at_T33 HR0.out x12_1 p156 q156
           cases e156
           replace hx156_0 := (HB.out.cell (World.block_lt_of_cell? w _ hx156_0)).trans hx156_0
           replace hx156_1 := (HB.out.cell (World.block_lt_of_cell? w _ hx156_1)).trans hx156_1
           replace p156 := eq_true p156
           replace q156 := eq_true q156
           go_wp2_with (first | ((with_reducible refine gate_dst (N := 6) rfl ?_); refine box_event (by rfl) (N := 6) (by rfl) (cs := #[.int .i64 0, .int .i64 0]) (t := 33) zq4 ?_; intro gb157 hg w22 hbox hb; have BK157 := Aside0.mk (hbox); have GW157 := zgs HB hg; have GE157 := zgs HB hg; replace HB := zbs HB hb; clear hb hbox hg; obtain ⟨hcz23_0, hcz23_1, hfz23_0, hfz23_1⟩ := zce2 BK157.out))
           go_roundg k1
           case measure => have := HK1.out; omega
           case rel => exact ⟨(wrap64 (x12_1 + 1)), zq2, H', ⟨by have := HK1.out; omega⟩, ⟨zbz⟩⟩
      ·rw [if_neg c6] at H
       exact absurd H (by simp)
     ·rw [if_neg c5] at H
      exact absurd H (by simp)
    ·rw [if_neg c4] at H
     have c4b0 : decide (x12_1 < (l0.length : Int)) = false := decide_eq_false c4
     clear c4
     obtain rfl := Option.some.inj H
     go_wp2
     go_ret
     exact ⟨zq5, zbz⟩

end Go.Proofs.Ytmhaiihjfgfaoaa.Pr
end
