/- Part 11 of the proof of TopSearched: what the functions compute. No condition. -/
import Derived.Test.YthglkoddmpicdaaTsTopSearched3
import Derived.Test.YthglkoddmpicdaaTsTopSearched10
import Derived.Test.YthglkoddmpicdaaTsTopSearched5
import Derived.Test.YthglkoddmpicdaaTsTopSearched4
import Derived.Test.YthglkoddmpicdaaTsTopSearched6
set_option linter.unusedVariables false
set_option linter.unusedSimpArgs false
section
/- A dive. -/
namespace Go.Proofs.Ythglkoddmpicdaa.Gl
open Go.RowKit Go.Shelf Go.Proofs.YthglkoddmpicdaaW.PrintWords Go.Proofs.YthglkoddmpicdaaW.PrintLast Go.Proofs.YthglkoddmpicdaaW.PrintMore Go.Proofs.Ythglkoddmpicdaa.Pr Go.Proofs.YthglkoddmpicdaaW.Round
set_option linter.unusedVariables false
set_option linter.unusedSimpArgs false
attribute [local go_sem] max2_int min2_int max_two min_two max_four
/-- A valid sea. -/
structure SeaV (s : Sea) : Prop where
 n : SeaN s
 sh : (s.shores.length : Int) = s.nx * s.ny
 cu : (s.currents.length : Int) = s.slots * s.layers * (s.nx * s.ny)
 cb : CurB s
/-- A box whose numbers are in order and not too large. -/
def BoxOK (x : S29) : Prop := SmallB x ∧ x.f0.f0 ≤ x.f0.f1 ∧ x.f1.f0 ≤ x.f1.f1
theorem reach_ok {s : Sea} {v : Veh} {x : S29} {t : Int} (hS : SeaN s) (hV : VehN v) (hx : BoxOK x) (h : reachE s v x t = 0) : InSea s (grownI s v x) ∧ (0 ≤ t ∧ t + v.dive ≤ s.slots * s.slot) ∧ (0 ≤ x.f0.f0 ∧ x.f0.f1 ≤ 1000000) ∧ (0 ≤ x.f1.f0 ∧ x.f1.f1 ≤ 1000000) := by
 have hm := hS.most
 have hsp := hV.speed
 have hdv := hV.dive
 have p1 := mul_in (show 0 ≤ v.speed + s.most by omega) (show v.speed + s.most ≤ 10000 by omega) (show 0 ≤ v.dive by omega) hdv.2
 have p2 := mul_in (show 0 ≤ s.nx by have := hS.nx; omega) hS.nx.2 (show 0 ≤ s.cell by have := hS.cell; omega) hS.cell.2
 have p3 := mul_in (show 0 ≤ s.ny by have := hS.ny; omega) hS.ny.2 (show 0 ≤ s.cell by have := hS.cell; omega) hS.cell.2
 obtain ⟨⟨x0, x1, x2, x3⟩, x4, x5⟩ := hx
 unfold reachE at h
 have hc : containsI s (grownI s v x) = true ∧ knownI s t (t + v.dive) = true := by
  by_cases hb : (containsI s (grownI s v x) && knownI s t (t + v.dive)) = true
  ·exact Bool.and_eq_true_iff.1 hb
  ·rw [if_neg hb] at h
   cases h
 obtain ⟨h1, h2⟩ := hc
 unfold containsI grownI at h1
 unfold knownI at h2
 simp only [Bool.and_eq_true, decide_eq_true_eq] at h1 h2
 unfold InSea grownI
 dsimp only
 omega
def diveE (s : Sea) (v : Veh) (x : S29) (t : Int) : Int := if reachE s v x t ≠ 0 then reachE s v x t else safeE s (grownI s v x)
def diveV (s : Sea) (v : Veh) (x : S29) (t hd layer : Int) : S29 := if diveE s v x t = 0 then endsI s v x (grownI s v x) t hd layer else z29
theorem safe_two (s : Sea) (x : S29) : safeE s x = 0 ∨ safeE s x = 21 := by
 unfold safeE
 split
 ·exact .inr rfl
 ·exact .inl rfl
theorem dive_box {s : Sea} {v : Veh} {x : S29} {t hd layer : Int} (hS : SeaV s) (hV : VehN v) (hx : BoxOK x) (h : diveE s v x t = 0) : BoxOK (diveV s v x t hd layer) := by
 have hr : reachE s v x t = 0 := by
  unfold diveE at h
  by_cases hz : reachE s v x t = 0
  ·exact hz
  ·rw [if_pos hz] at h
   exact absurd h hz
 obtain ⟨_, _, ⟨a0, a1⟩, b0, b1⟩ := reach_ok hS.n hV hx hr
 obtain ⟨_, o1, o2⟩ := hx
 have hdv := hV.dive
 have hsp := hV.speed
 have hdi := dirI_in hd
 have hai := at_in hS.cb (grownI s v x) layer t (t + v.dive)
 unfold diveV
 rw [if_pos h]
 unfold endsI shiftI BoxOK SmallB downM upM
 dsimp only
 generalize atI s (grownI s v x) layer t (t + v.dive) = y at *
 generalize dirI hd = d at *
 obtain ⟨⟨y0, y1⟩, ⟨y2, y3⟩, ⟨y4, y5⟩, ⟨y6, y7⟩, y8, y9⟩ := hai
 have m0 := mul_abs (a := d.1) (b := v.speed) (m := 1000) (n := 5000) hdi.1.1 hdi.1.2 hsp.1 hsp.2 (by omega)
 have m1 := mul_abs (a := d.2) (b := v.speed) (m := 1000) (n := 5000) hdi.2.1 hdi.2.2 hsp.1 hsp.2 (by omega)
 generalize d.1 * v.speed = e at *
 generalize d.2 * v.speed = f at *
 have n0 := mul_abs (a := e + 1000 * y.f0.f0) (b := v.dive) (m := 10000000) (n := 131072) (by omega) (by omega) (by omega) (by omega) (by omega)
 have n1 := mul_abs (a := e + 1000 * y.f0.f1) (b := v.dive) (m := 10000000) (n := 131072) (by omega) (by omega) (by omega) (by omega) (by omega)
 have n2 := mul_abs (a := f + 1000 * y.f1.f0) (b := v.dive) (m := 10000000) (n := 131072) (by omega) (by omega) (by omega) (by omega) (by omega)
 have n3 := mul_abs (a := f + 1000 * y.f1.f1) (b := v.dive) (m := 10000000) (n := 131072) (by omega) (by omega) (by omega) (by omega) (by omega)
 have k0 := Int.mul_le_mul_of_nonneg_right (show e + 1000 * y.f0.f0 ≤ e + 1000 * y.f0.f1 by omega) (show 0 ≤ v.dive by omega)
 have k1 := Int.mul_le_mul_of_nonneg_right (show f + 1000 * y.f1.f0 ≤ f + 1000 * y.f1.f1 by omega) (show 0 ≤ v.dive by omega)
 generalize (e + 1000 * y.f0.f0) * v.dive = A at *
 generalize (e + 1000 * y.f0.f1) * v.dive = B at *
 generalize (f + 1000 * y.f1.f0) * v.dive = C at *
 generalize (f + 1000 * y.f1.f1) * v.dive = E at *
 clear m0 m1 hdi hdv hsp h hr
 omega
set_option maxRecDepth 100000 in
set_option maxHeartbeats 8000000 in
theorem dive_any (b : Nat) (s : Sea) (v : Veh) (x : S29) (t hd layer : Int) (w : World) (hT : TripAt w b s v) (hS : SeaV s) (hV : VehN v) (hx : BoxOK x) (ht0 : 0 ≤ t) (ht1 : t ≤ 1099511627776) (hh0 : 0 ≤ hd) (hh1 : hd ≤ 8) (hl0 : 0 ≤ layer) (hl1 : layer < s.layers) :
  Calls Try.prog 83 #[.pointer (some ⟨b, 0, none⟩), .agg #[.int .i64 x.f0.f0, .int .i64 x.f0.f1, .int .i64 x.f1.f0, .int .i64 x.f1.f1], .int .i64 t, .agg #[.int .i64 hd, .int .i64 layer]] w (RetB (.tuple #[.agg #[.int .i64 (diveV s v x t hd layer).f0.f0, .int .i64 (diveV s v x t hd layer).f0.f1, .int .i64 (diveV s v x t hd layer).f1.f0, .int .i64 (diveV s v x t hd layer).f1.f1], .int .i64 (diveE s v x t)]) w) := by
 have hu29 := Try.underlying29
 have hu27 := Try.underlying27
 have hu76 := Try.underlying76
 have kR := fun W (h : TripAt W b s v) => reach_any b s v x t W h hS.n hV hx.1 ht0 ht1
 have hok := reach_ok (t := t) hS.n hV hx
 have HE : Hid (diveE s v x t = if reachE s v x t ≠ 0 then reachE s v x t else safeE s (grownI s v x)) := Lib.hid rfl
 have HV : Hid (diveV s v x t hd layer = if diveE s v x t = 0 then endsI s v x (grownI s v x) t hd layer else z29) := Lib.hid rfl
 have HRV : Hid (reachV s v x t = if reachE s v x t = 0 then grownI s v x else z29) := Lib.hid rfl
 go_enter Try.func83, Try.ntmps83
 go_wp2_with fail
 have m5 : Blk (((w.alloc (.cells #[.int .i64 x.f0.f0, .int .i64 x.f0.f1, .int .i64 x.f1.f0, .int .i64 x.f1.f1] 29)).alloc (.cells #[.int .i64 hd, .int .i64 layer] 76)).alloc (.cells #[.int .i64 0, .int .i64 0, .int .i64 0, .int .i64 0] 29)) (w.heap.size) #[.int .i64 x.f0.f0, .int .i64 x.f0.f1, .int .i64 x.f1.f0, .int .i64 x.f1.f1] 29 := (blk_alloc (blk_alloc zq27 _) _)
 have m7 : Blk (((w.alloc (.cells #[.int .i64 x.f0.f0, .int .i64 x.f0.f1, .int .i64 x.f1.f0, .int .i64 x.f1.f1] 29)).alloc (.cells #[.int .i64 hd, .int .i64 layer] 76)).alloc (.cells #[.int .i64 0, .int .i64 0, .int .i64 0, .int .i64 0] 29)) (w.heap.size + 1) #[.int .i64 hd, .int .i64 layer] 76 := (blk_alloc (by have h_ := blk_new (w.alloc (.cells #[.int .i64 x.f0.f0, .int .i64 x.f0.f1, .int .i64 x.f1.f0, .int .i64 x.f1.f1] 29)) (.cells #[.int .i64 hd, .int .i64 layer] 76); first | exact h_ | (simp only [World.size_alloc] at h_; exact h_)) _)
 have m8 : Blk (((w.alloc (.cells #[.int .i64 x.f0.f0, .int .i64 x.f0.f1, .int .i64 x.f1.f0, .int .i64 x.f1.f1] 29)).alloc (.cells #[.int .i64 hd, .int .i64 layer] 76)).alloc (.cells #[.int .i64 0, .int .i64 0, .int .i64 0, .int .i64 0] 29)) (w.heap.size + 1 + 1) #[.int .i64 0, .int .i64 0, .int .i64 0, .int .i64 0] 29 := (by have h_ := blk_new ((w.alloc (.cells #[.int .i64 x.f0.f0, .int .i64 x.f0.f1, .int .i64 x.f1.f0, .int .i64 x.f1.f1] 29)).alloc (.cells #[.int .i64 hd, .int .i64 layer] 76)) (.cells #[.int .i64 0, .int .i64 0, .int .i64 0, .int .i64 0] 29); first | exact h_ | (simp only [World.size_alloc] at h_; exact h_))
 have mB : Below w.heap.size w (((w.alloc (.cells #[.int .i64 x.f0.f0, .int .i64 x.f0.f1, .int .i64 x.f1.f0, .int .i64 x.f1.f1] 29)).alloc (.cells #[.int .i64 hd, .int .i64 layer] 76)).alloc (.cells #[.int .i64 0, .int .i64 0, .int .i64 0, .int .i64 0] 29)) := (below_alloc (below_alloc (below_alloc (Below.refl w.heap.size w) _) _) _)
 have hsz_ : w.heap.size ≤ w.heap.size := Nat.le_refl _
 generalize hW_ : (((w.alloc (.cells #[.int .i64 x.f0.f0, .int .i64 x.f0.f1, .int .i64 x.f1.f0, .int .i64 x.f1.f1] 29)).alloc (.cells #[.int .i64 hd, .int .i64 layer] 76)).alloc (.cells #[.int .i64 0, .int .i64 0, .int .i64 0, .int .i64 0] 29)) = W1 at m5 m7 m8 mB ⊢
 clear hW_
 generalize hg5 : w.heap.size = g5 at m5 m7 m8 ⊢
 have hG5 : w.heap.size ≤ g5 := by omega
 generalize hg7 : g5 + 1 = g7 at m7 m8 ⊢
 have hn_5_7 : g5 ≠ g7 := by omega
 have hn_7_5 : g7 ≠ g5 := hn_5_7.symm
 have hG7 : w.heap.size ≤ g7 := by omega
 generalize hg8 : g7 + 1 = g8 at m8 ⊢
 have hn_5_8 : g5 ≠ g8 := by omega
 have hn_7_8 : g7 ≠ g8 := by omega
 have hn_8_5 : g8 ≠ g5 := hn_5_8.symm
 have hn_8_7 : g8 ≠ g7 := hn_7_8.symm
 have hG8 : w.heap.size ≤ g8 := by omega
 clear hsz_
 try clear hg8
 try clear hg7
 try clear hg5
 have hs_W1 : w.heap.size ≤ W1.heap.size := mB.size
 have hcon := kR W1 (hT.below mB)
 (with_reducible refine hcon.mono ?_)
 clear hcon
 rintro e W2 ⟨rfl, hb⟩
 replace m5 := blk_below m5 hb
 replace m7 := blk_below m7 hb
 replace m8 := blk_below m8 hb
 replace mB := below_step mB hb
 clear hb
 have hs_W2 : w.heap.size ≤ W2.heap.size := mB.size
 clear kR
 by_cases hr : reachE s v x t = 0
 case neg =>
  have HZ : Hid (diveE s v x t = reachE s v x t) := Lib.hid (HE.out.trans (if_pos hr))
  try clear HE
  have HV2 : Hid (diveV s v x t hd layer = z29) := Lib.hid (HV.out.trans (if_neg (by rw [HZ.out]; exact hr)))
  clear HV hok
  generalize reachE s v x t = E at *
  generalize reachV s v x t = V at *
  have hz : (E == 0) = false := beq_eq_false_iff_ne.2 hr
  have hz2 : (E != 0) = true := by rw [bne, hz]; rfl
  clear hr HRV
  have a8_0 : ∀ o_, (W2.alloc o_).cell? ⟨g8, 0, none⟩ = some (.int .i64 0) := fun o_ => (blk_cell (blk_alloc m8 o_) 0).trans rfl
  have b8_0 : ∀ o_, (W2.alloc o_).frozen? ⟨g8, 0, none⟩ = false := fun o_ => blk_frozen (blk_alloc m8 o_) 0
  have a8_1 : ∀ o_, (W2.alloc o_).cell? ⟨g8, 1, none⟩ = some (.int .i64 0) := fun o_ => (blk_cell (blk_alloc m8 o_) 1).trans rfl
  have b8_1 : ∀ o_, (W2.alloc o_).frozen? ⟨g8, 1, none⟩ = false := fun o_ => blk_frozen (blk_alloc m8 o_) 1
  have a8_2 : ∀ o_, (W2.alloc o_).cell? ⟨g8, 2, none⟩ = some (.int .i64 0) := fun o_ => (blk_cell (blk_alloc m8 o_) 2).trans rfl
  have b8_2 : ∀ o_, (W2.alloc o_).frozen? ⟨g8, 2, none⟩ = false := fun o_ => blk_frozen (blk_alloc m8 o_) 2
  have a8_3 : ∀ o_, (W2.alloc o_).cell? ⟨g8, 3, none⟩ = some (.int .i64 0) := fun o_ => (blk_cell (blk_alloc m8 o_) 3).trans rfl
  have b8_3 : ∀ o_, (W2.alloc o_).frozen? ⟨g8, 3, none⟩ = false := fun o_ => blk_frozen (blk_alloc m8 o_) 3
  go_wp2
  exact bodyPost_ret (results_ct rfl _ _ g8 29 #[.int .i64 0, .int .i64 0, .int .i64 0, .int .i64 0] (0, 0) _ rfl (blk_put (blk_put (blk_put (blk_put (blk_alloc m8 _) 0 (.int .i64 0) rfl) 1 (.int .i64 0) rfl) 2 (.int .i64 0) rfl) 3 (.int .i64 0) rfl) Try.underlying29 rfl zq3) rfl ⟨by rw [HV2.out, HZ.out]; rfl, (Below.setCell (p := ⟨g8, 3, none⟩) (Below.setCell (p := ⟨g8, 2, none⟩) (Below.setCell (p := ⟨g8, 1, none⟩) (Below.setCell (p := ⟨g8, 0, none⟩) (below_alloc mB _) hG8 _) hG8 _) hG8 _) hG8 _)⟩
 case pos =>
  obtain ⟨hG, ⟨hk0, hk1⟩, _⟩ := hok hr
  clear hok
  have HE2 := Lib.hid (HE.out.trans (if_neg (fun h => h hr)))
  clear HE
  have HRV2 := Lib.hid (HRV.out.trans (if_pos hr))
  clear HRV
  rw [hr, HRV2.out]
  clear hr HRV2
  have kS := fun W (h : TripAt W b s v) => safe_any b s v (grownI s v x) W h hS.n hG hS.sh
  have kD := fun W (h : TripAt W b s v) => ends_any b s v x (grownI s v x) t hd layer W h hS.n hV hS.cu hS.cb hx.1 hG hk0 hk1 hh0 hh1 hl0 hl1
  clear hS hV hx hG hk0 hk1 hh0 hh1 hl0 hl1
  have hsf := safe_two s (grownI s v x)
  generalize endsI s v x (grownI s v x) t hd layer = Y at *
  generalize grownI s v x = G at *
  generalize safeE s G = F at *
  go_wp2_with fail
  have hl_5 := blk_lt m5
  have hl_7 := blk_lt m7
  have hl_8 := blk_lt m8
  have m10 : Blk (W2.alloc (.cells #[.int .i64 G.f0.f0, .int .i64 G.f0.f1, .int .i64 G.f1.f0, .int .i64 G.f1.f1] 29)) (W2.heap.size) #[.int .i64 G.f0.f0, .int .i64 G.f0.f1, .int .i64 G.f1.f0, .int .i64 G.f1.f1] 29 := zq34
  replace m5 : Blk (W2.alloc (.cells #[.int .i64 G.f0.f0, .int .i64 G.f0.f1, .int .i64 G.f1.f0, .int .i64 G.f1.f1] 29)) g5 #[.int .i64 x.f0.f0, .int .i64 x.f0.f1, .int .i64 x.f1.f0, .int .i64 x.f1.f1] 29 := (blk_alloc m5 _)
  replace m7 : Blk (W2.alloc (.cells #[.int .i64 G.f0.f0, .int .i64 G.f0.f1, .int .i64 G.f1.f0, .int .i64 G.f1.f1] 29)) g7 #[.int .i64 hd, .int .i64 layer] 76 := (blk_alloc m7 _)
  replace m8 : Blk (W2.alloc (.cells #[.int .i64 G.f0.f0, .int .i64 G.f0.f1, .int .i64 G.f1.f0, .int .i64 G.f1.f1] 29)) g8 #[.int .i64 0, .int .i64 0, .int .i64 0, .int .i64 0] 29 := (blk_alloc m8 _)
  replace mB : Below w.heap.size w (W2.alloc (.cells #[.int .i64 G.f0.f0, .int .i64 G.f0.f1, .int .i64 G.f1.f0, .int .i64 G.f1.f1] 29)) := (below_alloc mB _)
  have hsz_ : w.heap.size ≤ W2.heap.size := hs_W2
  generalize hW_ : (W2.alloc (.cells #[.int .i64 G.f0.f0, .int .i64 G.f0.f1, .int .i64 G.f1.f0, .int .i64 G.f1.f1] 29)) = W3 at m5 m7 m8 m10 mB ⊢
  clear hW_
  generalize hg10 : W2.heap.size = g10 at m10 ⊢
  have hn_5_10 : g5 ≠ g10 := by omega
  have hn_7_10 : g7 ≠ g10 := by omega
  have hn_8_10 : g8 ≠ g10 := by omega
  have hn_10_5 : g10 ≠ g5 := hn_5_10.symm
  have hn_10_7 : g10 ≠ g7 := hn_7_10.symm
  have hn_10_8 : g10 ≠ g8 := hn_8_10.symm
  have hG10 : w.heap.size ≤ g10 := by omega
  clear hsz_ hl_5 hl_7 hl_8
  try clear hg10
  have hs_W3 : w.heap.size ≤ W3.heap.size := mB.size
  have hcon := kS W3 (hT.below mB)
  (with_reducible refine hcon.mono ?_)
  clear hcon
  rintro e W4 ⟨rfl, hb⟩
  replace m5 := blk_below m5 hb
  replace m7 := blk_below m7 hb
  replace m8 := blk_below m8 hb
  replace m10 := blk_below m10 hb
  replace mB := below_step mB hb
  clear hb
  have hs_W4 : w.heap.size ≤ W4.heap.size := mB.size
  clear kS
  rcases hsf with rfl | rfl
  case inr =>
   have HZ : Hid (diveE s v x t = 21) := Lib.hid (HE2.out)
   try clear HE
   have HV2 : Hid (diveV s v x t hd layer = z29) := Lib.hid (HV.out.trans (if_neg (by rw [HZ.out]; decide)))
   clear HV
   obtain ⟨c8_0, c8_1, c8_2, c8_3, f8_0, f8_1, f8_2, f8_3⟩ := zce4 m8
   go_wp2
   exact bodyPost_ret (results_ct rfl _ _ g8 29 #[.int .i64 0, .int .i64 0, .int .i64 0, .int .i64 0] (0, 0) _ rfl (blk_put (blk_put (blk_put (blk_put m8 0 (.int .i64 0) rfl) 1 (.int .i64 0) rfl) 2 (.int .i64 0) rfl) 3 (.int .i64 0) rfl) Try.underlying29 rfl zq3) rfl ⟨by rw [HV2.out, HZ.out]; rfl, (Below.setCell (p := ⟨g8, 3, none⟩) (Below.setCell (p := ⟨g8, 2, none⟩) (Below.setCell (p := ⟨g8, 1, none⟩) (Below.setCell (p := ⟨g8, 0, none⟩) mB hG8 _) hG8 _) hG8 _) hG8 _)⟩
  case inl =>
   have HV2 := Lib.hid (HV.out.trans (if_pos HE2.out))
   clear HV
   obtain ⟨c5_0, c5_1, c5_2, c5_3⟩ := zcs4 m5
   obtain ⟨c7_0, c7_1⟩ := zcs2 m7
   obtain ⟨c10_0, c10_1, c10_2, c10_3⟩ := zcs4 m10
   go_wp2_with fail
   clear c5_0 c5_1 c5_2 c5_3 c7_0 c7_1 c10_0 c10_1 c10_2 c10_3
   have hcon := kD W4 (hT.below mB)
   (with_reducible refine hcon.mono ?_)
   clear hcon
   rintro e W5 ⟨rfl, hb⟩
   replace m5 := blk_below m5 hb
   replace m7 := blk_below m7 hb
   replace m8 := blk_below m8 hb
   replace m10 := blk_below m10 hb
   replace mB := below_step mB hb
   clear hb
   have hs_W5 : w.heap.size ≤ W5.heap.size := mB.size
   clear kD
   obtain ⟨c8_0, c8_1, c8_2, c8_3, f8_0, f8_1, f8_2, f8_3⟩ := zce4 m8
   go_wp2
   exact bodyPost_ret (results_ct rfl _ _ g8 29 #[.int .i64 Y.f0.f0, .int .i64 Y.f0.f1, .int .i64 Y.f1.f0, .int .i64 Y.f1.f1] (0, 0) _ rfl (blk_put (blk_put (blk_put (blk_put m8 0 (.int .i64 Y.f0.f0) rfl) 1 (.int .i64 Y.f0.f1) rfl) 2 (.int .i64 Y.f1.f0) rfl) 3 (.int .i64 Y.f1.f1) rfl) Try.underlying29 rfl zq3) rfl ⟨by rw [HV2.out, HE2.out]; rfl, (Below.setCell (p := ⟨g8, 3, none⟩) (Below.setCell (p := ⟨g8, 2, none⟩) (Below.setCell (p := ⟨g8, 1, none⟩) (Below.setCell (p := ⟨g8, 0, none⟩) mB hG8 _) hG8 _) hG8 _) hG8 _)⟩
end Go.Proofs.Ythglkoddmpicdaa.Gl
end
section
namespace Go.Proofs.Ythglkoddmpicdaa.Pr
open Go.RowKit Go.Proofs.YthglkoddmpicdaaW.PrintWords Go.Proofs.YthglkoddmpicdaaW.PrintLast Go.Proofs.YthglkoddmpicdaaW.PrintMore
attribute [local go_sem] max2_int min2_int max_two min_two max_four
set_option linter.unusedVariables false
set_option linter.unusedSimpArgs false

/-! ### glider_checkPlace: function 132 -/
def glider_checkPlace.f (k : Nat) (a0_0 : Int) (a0_1 : Int) (a0_2 : Int) (a0_3 : Int) (a1 : Int) : Option (Int) := (bound_CheckBox.f k a0_0 a0_1 a0_2 a0_3).bind fun t420 => (if t420 = 0 then ((glider_between.f a1 0 1073741824).bind fun t421 => (if t421 = true then (some 0) else (some 3))) else (some t420))
set_option maxHeartbeats 8000000 in
set_option maxRecDepth 100000 in
theorem glider_checkPlace.calls (k : Nat) (a0_0 : Int) (a0_1 : Int) (a0_2 : Int) (a0_3 : Int) (a1 : Int) (r : Int) (w : World) (h : glider_checkPlace.f k a0_0 a0_1 a0_2 a0_3 a1 = some r) :
  Calls Try.prog 132 #[.agg #[.int .i64 a0_0, .int .i64 a0_1, .int .i64 a0_2, .int .i64 a0_3], .int .i64 a1] w fun e w' => e = .returned (.int .i64 r) ∧ Below w.heap.size w w' := by
 have hu29 := Try.underlying29
 have HB := Aside0.mk (Below.refl w.heap.size w)
 have H : ((bound_CheckBox.f k a0_0 a0_1 a0_2 a0_3).bind fun t420 => (if t420 = 0 then ((glider_between.f a1 0 1073741824).bind fun t421 => (if t421 = true then (some 0) else (some 3))) else (some t420))) = some r := h
 clear h
 replace H := Option.bind_eq_some_iff.mp H
 obtain ⟨t420, A30, H⟩ := H
 replace H : (if t420 = 0 then ((glider_between.f a1 0 1073741824).bind fun t421 => (if t421 = true then (some 0) else (some 3))) else (some t420)) = some r := H
 have A3 := Aside0.mk A30
 clear A30
 by_cases c4 : t420 = 0
 ·rw [if_pos c4] at H
  have c4b0 : (t420 == 0) = true := beq_iff_eq.mpr c4
  have c4b1 : (t420 != 0) = false := bne_eq_false_iff_eq.mpr c4
  clear c4
  replace H := Option.bind_eq_some_iff.mp H
  obtain ⟨t421, A50, H⟩ := H
  replace H : (if t421 = true then (some 0) else (some 3)) = some r := H
  have A5 := Aside0.mk A50
  clear A50
  by_cases c6 : t421 = true
  ·subst c6
   have H1 : (some 0) = some r := by rw [if_pos rfl] at H; exact H
   clear H
   have H := H1
   clear H1
   obtain rfl := Option.some.inj H
   go_enter Try.func132, Try.ntmps132
   go_wp2_with (first | ((with_reducible refine gate_dst (N := 2) rfl ?_); refine box_event (by rfl) (N := 2) (by rfl) (cs := #[.int .i64 a0_0, .int .i64 a0_1, .int .i64 a0_2, .int .i64 a0_3]) (t := 29) zq1 ?_; intro gb419 hg w7 hbox hb; have BK419 := Aside0.mk (hbox); have GW419 := zgs HB hg; have GE419 := zgs HB hg; replace HB := zbs HB hb; clear hb hbox hg; obtain ⟨hcz8_0, hcz8_1, hcz8_2, hcz8_3, hfz8_0, hfz8_1, hfz8_2, hfz8_3⟩ := zce4 BK419.out) | ((with_reducible refine gate_callee (f := 51) rfl ?_); refine goesL_ (some 7) rfl rfl Try.func51 zq3 rfl #[.agg #[.int .i64 a0_0, .int .i64 a0_1, .int .i64 a0_2, .int .i64 a0_3]] rfl zq8 ?_; (with_reducible refine (bound_CheckBox.calls k a0_0 a0_1 a0_2 a0_3 t420 _ A3.out).mono ?_); rintro e w9 ⟨rfl, hb⟩; refine ⟨_, rfl, ?_⟩; replace BK419 := zbb BK419 hb; replace HB := zbs HB hb; (try clear hb); (try clear hb2); (try clear hk); (try clear hi)) | ((with_reducible refine gate_callee (f := 63) rfl ?_); refine goesL_ (some 12) rfl rfl Try.func63 zq3 rfl #[.int .i64 a1, .int .i64 0, .int .i64 1073741824] rfl zq8 ?_; (with_reducible refine (glider_between.calls a1 0 1073741824 true _ A5.out).mono ?_); rintro e w' ⟨rfl, ⟨nd, rfl⟩⟩; refine ⟨_, rfl, ?_⟩))
   go_ret
   exact ⟨zq2, zbz⟩
  ·replace c6 := Bool.eq_false_iff.mpr c6
   subst c6
   have H1 : (some 3) = some r := by rw [if_neg (show ¬ (false = true) by decide)] at H; exact H
   clear H
   have H := H1
   clear H1
   obtain rfl := Option.some.inj H
   go_enter Try.func132, Try.ntmps132
   go_wp2_with (first | ((with_reducible refine gate_dst (N := 2) rfl ?_); refine box_event (by rfl) (N := 2) (by rfl) (cs := #[.int .i64 a0_0, .int .i64 a0_1, .int .i64 a0_2, .int .i64 a0_3]) (t := 29) zq1 ?_; intro gb419 hg w10 hbox hb; have BK419 := Aside0.mk (hbox); have GW419 := zgs HB hg; have GE419 := zgs HB hg; replace HB := zbs HB hb; clear hb hbox hg; obtain ⟨hcz11_0, hcz11_1, hcz11_2, hcz11_3, hfz11_0, hfz11_1, hfz11_2, hfz11_3⟩ := zce4 BK419.out) | ((with_reducible refine gate_callee (f := 51) rfl ?_); refine goesL_ (some 7) rfl rfl Try.func51 zq3 rfl #[.agg #[.int .i64 a0_0, .int .i64 a0_1, .int .i64 a0_2, .int .i64 a0_3]] rfl zq8 ?_; (with_reducible refine (bound_CheckBox.calls k a0_0 a0_1 a0_2 a0_3 t420 _ A3.out).mono ?_); rintro e w12 ⟨rfl, hb⟩; refine ⟨_, rfl, ?_⟩; replace BK419 := zbb BK419 hb; replace HB := zbs HB hb; (try clear hb); (try clear hb2); (try clear hk); (try clear hi)) | ((with_reducible refine gate_callee (f := 63) rfl ?_); refine goesL_ (some 12) rfl rfl Try.func63 zq3 rfl #[.int .i64 a1, .int .i64 0, .int .i64 1073741824] rfl zq8 ?_; (with_reducible refine (glider_between.calls a1 0 1073741824 false _ A5.out).mono ?_); rintro e w' ⟨rfl, ⟨nd, rfl⟩⟩; refine ⟨_, rfl, ?_⟩))
   go_ret
   exact ⟨zq2, zbz⟩
 ·rw [if_neg c4] at H
  have c4b0 : (t420 == 0) = false := beq_eq_false_iff_ne.mpr c4
  have c4b1 : (t420 != 0) = true := bne_iff_ne.mpr c4
  obtain rfl := Option.some.inj H
  go_enter Try.func132, Try.ntmps132
  go_wp2_with (first | ((with_reducible refine gate_dst (N := 2) rfl ?_); refine box_event (by rfl) (N := 2) (by rfl) (cs := #[.int .i64 a0_0, .int .i64 a0_1, .int .i64 a0_2, .int .i64 a0_3]) (t := 29) zq1 ?_; intro gb419 hg w13 hbox hb; have BK419 := Aside0.mk (hbox); have GW419 := zgs HB hg; have GE419 := zgs HB hg; replace HB := zbs HB hb; clear hb hbox hg; obtain ⟨hcz14_0, hcz14_1, hcz14_2, hcz14_3, hfz14_0, hfz14_1, hfz14_2, hfz14_3⟩ := zce4 BK419.out) | ((with_reducible refine gate_callee (f := 51) rfl ?_); refine goesL_ (some 7) rfl rfl Try.func51 zq3 rfl #[.agg #[.int .i64 a0_0, .int .i64 a0_1, .int .i64 a0_2, .int .i64 a0_3]] rfl zq8 ?_; (with_reducible refine (bound_CheckBox.calls k a0_0 a0_1 a0_2 a0_3 t420 _ A3.out).mono ?_); rintro e w15 ⟨rfl, hb⟩; refine ⟨_, rfl, ?_⟩; replace BK419 := zbb BK419 hb; replace HB := zbs HB hb; (try clear hb); (try clear hb2); (try clear hk); (try clear hi)))
  go_ret
  exact ⟨zq2, zbz⟩

end Go.Proofs.Ythglkoddmpicdaa.Pr
end
section
namespace Go.Proofs.Ythglkoddmpicdaa.Pr
open Go.RowKit Go.Proofs.YthglkoddmpicdaaW.PrintWords Go.Proofs.YthglkoddmpicdaaW.PrintLast Go.Proofs.YthglkoddmpicdaaW.PrintMore
attribute [local go_sem] max2_int min2_int max_two min_two max_four
set_option linter.unusedVariables false
set_option linter.unusedSimpArgs false

/-! ### glider_checkCourses: function 82 -/
def glider_checkCourses.l0 : Nat → Int → List (S76) → Int → Int → Option (Int)
 | 0, _, _, _, _ => none
 | k + 1, x1, x10, x11, x12 => if x12 < x11 then (if 0 ≤ x12 then (if x12 < (x10.length : Int) then (if ((rd_T76 x10 x12).f0) < 0 then (some 2) else (if ((rd_T76 x10 x12).f0) ≥ 9 then (some 2) else (if ((rd_T76 x10 x12).f1) < 0 then (some 2) else (if x1 ≥ 0 then (if ((rd_T76 x10 x12).f1) ≥ x1 then (some 2) else (glider_checkCourses.l0 k x1 x10 x11 (wrap64 (x12 + 1)))) else (glider_checkCourses.l0 k x1 x10 x11 (wrap64 (x12 + 1))))))) else (none)) else (none)) else (some 0)
def glider_checkCourses.f (k : Nat) (l0 : List (S76)) (a1 : Int) : Option (Int) := if (l0.length : Int) > 64 then (some 6) else (glider_checkCourses.l0 k a1 l0 (l0.length : Int) 0)
set_option maxHeartbeats 8000000 in
set_option maxRecDepth 100000 in
theorem glider_checkCourses.calls (k : Nat) (A0 : Option Addr) (c0 : Nat) (l0 : List (S76)) (a1 : Int) (r : Int) (w : World) (hr0 : Kd.C k76 w A0 l0.length l0) (hc0 : l0.length ≤ c0) (h : glider_checkCourses.f k l0 a1 = some r) :
  Calls Try.prog 82 #[.slice A0 l0.length c0, .int .i64 a1] w fun e w' => e = .returned (.int .i64 r) ∧ Below w.heap.size w w' := by
 have hu76 := Try.underlying76
 have HR0 := Aside0.mk hr0
 have HC0 := Aside0.mk hc0
 clear hr0 hc0
 have HB := Aside0.mk (Below.refl w.heap.size w)
 have H : (if (l0.length : Int) > 64 then (some 6) else (glider_checkCourses.l0 k a1 l0 (l0.length : Int) 0)) = some r := h
 clear h
 by_cases c3 : (l0.length : Int) > 64
 ·rw [if_pos c3] at H
  have c3b0 : decide (64 < (l0.length : Int)) = true := decide_eq_true c3
  have c3b1 : decide (64 < l0.length) = true := decide_eq_true (by omega)
  clear c3
  obtain rfl := Option.some.inj H
  go_enter Try.func82, Try.ntmps82
  go_wp2
  go_ret
  exact ⟨zq2, zbz⟩
 ·rw [if_neg c3] at H
  have c3b0 : decide (64 < (l0.length : Int)) = false := decide_eq_false c3
  have c3b1 : decide (64 < l0.length) = false := decide_eq_false (by omega)
  clear c3
  have H' := Aside0.mk H
  clear H
  go_enter Try.func82, Try.ntmps82
  go_wp2
  go_loopg [12] k (fun kq v12 w' => ∃ (x12_1 : Int), v12 = .int .i64 x12_1 ∧ Aside0 (glider_checkCourses.l0 kq a1 l0 (l0.length : Int) x12_1 = some r) ∧ Aside0 (kq ≤ k) ∧ Aside0 (Below w.heap.size w w'))
  case atStart => exact ⟨(0), zq4, H', ⟨Nat.le_refl _⟩, ⟨zbz⟩⟩
  case round =>
   clear H'
   try clear p2
   try clear c3
   try clear c3b0
   try clear c3b1
   obtain ⟨x12_1, rfl, HA, HK1, HB⟩ := hrel
   cases gk with
   | zero => exact absurd HA.out (by simp [glider_checkCourses.l0])
   | succ k1 =>
    have H := HA.out
    clear HA
    simp only [glider_checkCourses.l0] at H
    by_cases c4 : x12_1 < (l0.length : Int)
    ·rw [if_pos c4] at H
     have c4b0 : decide (x12_1 < (l0.length : Int)) = true := decide_eq_true c4
     clear c4
     by_cases c5 : 0 ≤ x12_1
     ·rw [if_pos c5] at H
      have c5b0 : decide (0 ≤ x12_1) = true := decide_eq_true c5
      clear c5
      by_cases c6 : x12_1 < (l0.length : Int)
      ·rw [if_pos c6] at H
       have c6b0 : decide (x12_1 < (l0.length : Int)) = true := decide_eq_true c6
       clear c6
       by_cases c7 : ((rd_T76 l0 x12_1).f0) < 0
       ·rw [if_pos c7] at H
        have c7b0 : decide (((rd_T76 l0 x12_1).f0) < 0) = true := decide_eq_true c7
        clear c7
        obtain rfl := Option.some.inj H
        have p422 : 0 ≤ (x12_1 : Int) := of_decide_eq_true zq5
        have q422 : x12_1 < (l0.length : Int) := of_decide_eq_true zq5
        obtain ⟨ad422, e422, hx422_0, hx422_1⟩ := at_T76 HR0.out x12_1 p422 q422
        cases e422
        replace hx422_0 := (HB.out.cell (World.block_lt_of_cell? w _ hx422_0)).trans hx422_0
        replace hx422_1 := (HB.out.cell (World.block_lt_of_cell? w _ hx422_1)).trans hx422_1
        replace p422 := eq_true p422
        replace q422 := eq_true q422
        go_wp2_with (first | ((with_reducible refine gate_dst (N := 6) rfl ?_); refine box_event (by rfl) (N := 6) (by rfl) (cs := #[.int .i64 0, .int .i64 0]) (t := 76) zq1 ?_; intro gb423 hg w8 hbox hb; have BK423 := Aside0.mk (hbox); have GW423 := zgs HB hg; have GE423 := zgs HB hg; replace HB := zbs HB hb; clear hb hbox hg; obtain ⟨hcz9_0, hcz9_1, hfz9_0, hfz9_1⟩ := zce2 BK423.out))
        go_ret
        exact ⟨zq2, zbz⟩
       ·rw [if_neg c7] at H
        have c7b0 : decide (((rd_T76 l0 x12_1).f0) < 0) = false := decide_eq_false c7
        clear c7
        by_cases c10 : ((rd_T76 l0 x12_1).f0) ≥ 9
        ·rw [if_pos c10] at H
         have c10b0 : decide (9 ≤ ((rd_T76 l0 x12_1).f0)) = true := decide_eq_true c10
         clear c10
         obtain rfl := Option.some.inj H
         have p422 : 0 ≤ (x12_1 : Int) := of_decide_eq_true zq5
         have q422 : x12_1 < (l0.length : Int) := of_decide_eq_true zq5
         obtain ⟨ad422, e422, hx422_0, hx422_1⟩ := at_T76 HR0.out x12_1 p422 q422
         cases e422
         replace hx422_0 := (HB.out.cell (World.block_lt_of_cell? w _ hx422_0)).trans hx422_0
         replace hx422_1 := (HB.out.cell (World.block_lt_of_cell? w _ hx422_1)).trans hx422_1
         replace p422 := eq_true p422
         replace q422 := eq_true q422
         go_wp2_with (first | ((with_reducible refine gate_dst (N := 6) rfl ?_); refine box_event (by rfl) (N := 6) (by rfl) (cs := #[.int .i64 0, .int .i64 0]) (t := 76) zq1 ?_; intro gb423 hg w11 hbox hb; have BK423 := Aside0.mk (hbox); have GW423 := zgs HB hg; have GE423 := zgs HB hg; replace HB := zbs HB hb; clear hb hbox hg; obtain ⟨hcz12_0, hcz12_1, hfz12_0, hfz12_1⟩ := zce2 BK423.out))
         go_ret
         exact ⟨zq2, zbz⟩
        ·rw [if_neg c10] at H
         have c10b0 : decide (9 ≤ ((rd_T76 l0 x12_1).f0)) = false := decide_eq_false c10
         clear c10
         by_cases c13 : ((rd_T76 l0 x12_1).f1) < 0
         ·rw [if_pos c13] at H
          have c13b0 : decide (((rd_T76 l0 x12_1).f1) < 0) = true := decide_eq_true c13
          clear c13
          obtain rfl := Option.some.inj H
          have p422 : 0 ≤ (x12_1 : Int) := of_decide_eq_true zq5
          have q422 : x12_1 < (l0.length : Int) := of_decide_eq_true zq5
          obtain ⟨ad422, e422, hx422_0, hx422_1⟩ := at_T76 HR0.out x12_1 p422 q422
          cases e422
          replace hx422_0 := (HB.out.cell (World.block_lt_of_cell? w _ hx422_0)).trans hx422_0
          replace hx422_1 := (HB.out.cell (World.block_lt_of_cell? w _ hx422_1)).trans hx422_1
          replace p422 := eq_true p422
          replace q422 := eq_true q422
          go_wp2_with (first | ((with_reducible refine gate_dst (N := 6) rfl ?_); refine box_event (by rfl) (N := 6) (by rfl) (cs := #[.int .i64 0, .int .i64 0]) (t := 76) zq1 ?_; intro gb423 hg w14 hbox hb; have BK423 := Aside0.mk (hbox); have GW423 := zgs HB hg; have GE423 := zgs HB hg; replace HB := zbs HB hb; clear hb hbox hg; obtain ⟨hcz15_0, hcz15_1, hfz15_0, hfz15_1⟩ := zce2 BK423.out))
          go_ret
          exact ⟨zq2, zbz⟩
         ·rw [if_neg c13] at H
          have c13b0 : decide (((rd_T76 l0 x12_1).f1) < 0) = false := decide_eq_false c13
          clear c13
          by_cases c16 : a1 ≥ 0
          ·rw [if_pos c16] at H
           have c16b0 : decide (0 ≤ a1) = true := decide_eq_true c16
           clear c16
           by_cases c17 : ((rd_T76 l0 x12_1).f1) ≥ a1
           ·rw [if_pos c17] at H
            have c17b0 : decide (a1 ≤ ((rd_T76 l0 x12_1).f1)) = true := decide_eq_true c17
            clear c17
            obtain rfl := Option.some.inj H
            have p422 : 0 ≤ (x12_1 : Int) := of_decide_eq_true zq5
            have q422 : x12_1 < (l0.length : Int) := of_decide_eq_true zq5
            obtain ⟨ad422, e422, hx422_0, hx422_1⟩ := at_T76 HR0.out x12_1 p422 q422
            cases e422
            replace hx422_0 := (HB.out.cell (World.block_lt_of_cell? w _ hx422_0)).trans hx422_0
            replace hx422_1 := (HB.out.cell (World.block_lt_of_cell? w _ hx422_1)).trans hx422_1
            replace p422 := eq_true p422
            replace q422 := eq_true q422
            go_wp2_with (first | ((with_reducible refine gate_dst (N := 6) rfl ?_); refine box_event (by rfl) (N := 6) (by rfl) (cs := #[.int .i64 0, .int .i64 0]) (t := 76) zq1 ?_; intro gb423 hg w18 hbox hb; have BK423 := Aside0.mk (hbox); have GW423 := zgs HB hg; have GE423 := zgs HB hg; replace HB := zbs HB hb; clear hb hbox hg; obtain ⟨hcz19_0, hcz19_1, hfz19_0, hfz19_1⟩ := zce2 BK423.out))
            go_ret
            exact ⟨zq2, zbz⟩
           ·rw [if_neg c17] at H
            have c17b0 : decide (a1 ≤ ((rd_T76 l0 x12_1).f1)) = false := decide_eq_false c17
            clear c17
            have H' := Aside0.mk H
            clear H
            have p422 : 0 ≤ (x12_1 : Int) := of_decide_eq_true zq5
            have q422 : x12_1 < (l0.length : Int) := of_decide_eq_true zq5
            obtain ⟨ad422, e422, hx422_0, hx422_1⟩ := at_T76 HR0.out x12_1 p422 q422
            cases e422
            replace hx422_0 := (HB.out.cell (World.block_lt_of_cell? w _ hx422_0)).trans hx422_0
            replace hx422_1 := (HB.out.cell (World.block_lt_of_cell? w _ hx422_1)).trans hx422_1
            replace p422 := eq_true p422
            replace q422 := eq_true q422
            go_wp2_with (first | ((with_reducible refine gate_dst (N := 6) rfl ?_); refine box_event (by rfl) (N := 6) (by rfl) (cs := #[.int .i64 0, .int .i64 0]) (t := 76) zq1 ?_; intro gb423 hg w20 hbox hb; have BK423 := Aside0.mk (hbox); have GW423 := zgs HB hg; have GE423 := zgs HB hg; replace HB := zbs HB hb; clear hb hbox hg; obtain ⟨hcz21_0, hcz21_1, hfz21_0, hfz21_1⟩ := zce2 BK423.out))
            go_roundg k1
            case measure => have := HK1.out; omega
            case rel => exact ⟨(wrap64 (x12_1 + 1)), zq4, H', ⟨zq6⟩, ⟨zbz⟩⟩
          ·rw [if_neg c16] at H
           have c16b0 : decide (0 ≤ a1) = false := decide_eq_false c16
           clear c16
           have H' := Aside0.mk H
           clear H
           have p422 : 0 ≤ (x12_1 : Int) := of_decide_eq_true zq5
           have q422 : x12_1 < (l0.length : Int) := of_decide_eq_true zq5
           obtain ⟨ad422, e422, hx422_0, hx422_1⟩ := at_T76 HR0.out x12_1 p422 q422
           cases e422
           replace hx422_0 := (HB.out.cell (World.block_lt_of_cell? w _ hx422_0)).trans hx422_0
           replace hx422_1 := (HB.out.cell (World.block_lt_of_cell? w _ hx422_1)).trans hx422_1
           replace p422 := eq_true p422
           replace q422 := eq_true q422
           go_wp2_with (first | ((with_reducible refine gate_dst (N := 6) rfl ?_); refine box_event (by rfl) (N := 6) (by rfl) (cs := #[.int .i64 0, .int .i64 0]) (t := 76) zq1 ?_; intro gb423 hg w22 hbox hb; have BK423 := Aside0.mk (hbox); have GW423 := zgs HB hg; have GE423 := zgs HB hg; replace HB := zbs HB hb; clear hb hbox hg; obtain ⟨hcz23_0, hcz23_1, hfz23_0, hfz23_1⟩ := zce2 BK423.out))
           go_roundg k1
           case measure => have := HK1.out; omega
           case rel => exact ⟨(wrap64 (x12_1 + 1)), zq4, H', ⟨zq6⟩, ⟨zbz⟩⟩
      ·rw [if_neg c6] at H
       exact absurd H (by simp)
     ·rw [if_neg c5] at H
      exact absurd H (by simp)
    ·rw [if_neg c4] at H
     have c4b0 : decide (x12_1 < (l0.length : Int)) = false := decide_eq_false c4
     clear c4
     obtain rfl := Option.some.inj H
     go_wp2
     go_ret
     exact ⟨zq2, zbz⟩

end Go.Proofs.Ythglkoddmpicdaa.Pr
end
section
/- A trip, as the program makes it, or the error. -/
namespace Go.Proofs.Ythglkoddmpicdaa.Gl
open Go.RowKit Go.Shelf Go.Proofs.YthglkoddmpicdaaW.PrintWords Go.Proofs.YthglkoddmpicdaaW.PrintLast Go.Proofs.YthglkoddmpicdaaW.PrintMore Go.Proofs.Ythglkoddmpicdaa.Pr Go.Proofs.YthglkoddmpicdaaW.Round
set_option linter.unusedVariables false
set_option linter.unusedSimpArgs false
attribute [local go_sem] max2_int min2_int max_two min_two max_four
theorem wrap_id' {n : Int} (h0 : -9223372036854775808 ≤ n) (h1 : n ≤ 9223372036854775807) : wrap64 n = n := by unfold wrap64; omega
/-- Is a vehicle valid? -/
def vehB (v : Veh) : Bool := btwB v.speed 0 5000 && btwB v.dive 1 131072 && bndB v.use.f0 v.use.f1 0 1073741824 && bndB v.drift.f0 v.drift.f1 0 1073741824 && btwB v.reserve 0 1073741824
def vehE (v : Veh) : Int := if vehB v then 0 else 2
theorem btw_some (x lo hi : Int) : glider_between.f x lo hi = some (btwB x lo hi) := by
 unfold glider_between.f btwB
 by_cases h : x ≥ lo
 ·rw [if_pos h, show decide (lo ≤ x) = true from decide_eq_true h]; simp
 ·rw [if_neg h, show decide (lo ≤ x) = false from decide_eq_false h]; simp
theorem veh_some (v : Veh) : glider_CheckVehicle.f 4 v.speed v.dive v.use.f0 v.use.f1 v.drift.f0 v.drift.f1 v.reserve = some (vehE v) := by
 unfold glider_CheckVehicle.f vehE vehB
 simp only [btw_some, bnd_some 2, Option.bind_some]
 cases btwB v.speed 0 5000 <;> cases btwB v.dive 1 131072 <;> cases bndB v.use.f0 v.use.f1 0 1073741824 <;> cases bndB v.drift.f0 v.drift.f1 0 1073741824 <;> cases btwB v.reserve 0 1073741824 <;> rfl
theorem veh_any (v : Veh) (w : World) : Calls Try.prog 62 #[.agg #[.int .i64 v.speed, .int .i64 v.dive, .int .i64 v.use.f0, .int .i64 v.use.f1, .int .i64 v.drift.f0, .int .i64 v.drift.f1, .int .i64 v.reserve]] w (RetB (.int .i64 (vehE v)) w) := glider_CheckVehicle.calls 4 _ _ _ _ _ _ _ _ w (veh_some v)
/-- Is a box valid? -/
def boxB (x : S29) : Bool := (okS x.f0.f0 x.f0.f1 && okS x.f1.f0 x.f1.f1) && (btwB x.f0.f0 (-268435456) 268435456 && btwB x.f0.f1 (-268435456) 268435456 && btwB x.f1.f0 (-268435456) 268435456 && btwB x.f1.f1 (-268435456) 268435456)
def boxE (x : S29) : Int := if boxB x then 0 else 2
theorem check_two (k : Nat) (a b : S27) : bound_check.f (k + 3) [a, b] = some (if okS a.f0 a.f1 && okS b.f0 b.f1 then 0 else 2) := by
 unfold bound_check.f
 have e1 : (([a, b] : List S27).length : Int) = 2 := rfl
 have r0 : rd_T27 [a, b] 0 = a := rfl
 have r1 : rd_T27 [a, b] 1 = b := rfl
 have w1 : wrap64 (0 + 1) = 1 := wrap_id' (by decide) (by decide)
 have w2 : wrap64 (1 + 1) = 2 := wrap_id' (by decide) (by decide)
 have step : ∀ (c : S27) (r : Option Int), (if c.f0 > c.f1 then some 2 else if c.f0 < -1073741824 then some 2 else if c.f1 > 1073741824 then some 2 else r) = if okS c.f0 c.f1 then r else some 2 := by
  intro c r
  cases h : okS c.f0 c.f1 with
  | true =>
   have := okS_iff.1 h
   rw [if_neg (by omega), if_neg (by omega), if_neg (by omega), if_pos rfl]
  | false =>
   have hn : ¬ (c.f0 ≤ c.f1 ∧ -1073741824 ≤ c.f0 ∧ c.f1 ≤ 1073741824) := fun h2 => by rw [okS_iff.2 h2] at h; cases h
   rw [show (if false = true then r else some 2) = some 2 from rfl]
   by_cases h1 : c.f0 > c.f1
   ·rw [if_pos h1]
   ·rw [if_neg h1]
    by_cases h2 : c.f0 < -1073741824
    ·rw [if_pos h2]
    ·rw [if_neg h2, if_pos (by omega)]
 simp only [bound_check.l0, e1]
 rw [if_pos (by decide), if_pos (by decide), if_pos (by decide), r0, step]
 cases ha : okS a.f0 a.f1 with
 | false => rfl
 | true =>
  rw [if_pos rfl, w1, if_pos (by decide), if_pos (by decide), if_pos (by decide), r1, step]
  cases hb : okS b.f0 b.f1 with
  | false => rfl
  | true =>
   rw [if_pos rfl, w2, if_neg (by decide)]
   rfl
theorem box_some (x : S29) : bound_CheckBox.f 4 x.f0.f0 x.f0.f1 x.f1.f0 x.f1.f1 = some (boxE x) := by
 unfold bound_CheckBox.f boxE boxB
 rw [check_two 1, Option.bind_some]
 cases h : (okS x.f0.f0 x.f0.f1 && okS x.f1.f0 x.f1.f1) with
 | false => rfl
 | true =>
  rw [Bool.and_eq_true] at h
  have h1 := okS_iff.1 h.1
  have h2 := okS_iff.1 h.2
  have am : ∀ a : Int, -1073741824 ≤ a → a ≤ 1073741824 → bound_amount.f a = some (max a (-a)) := fun a h0 h1 => by
   unfold bound_amount.f
   rw [mx_max', wrap_id' (by omega) (by omega)]
  rw [show (if (true = true) then (0 : Int) else 2) = 0 from rfl, if_pos rfl]
  simp only [am _ h1.2.1 (by omega), am _ (show -1073741824 ≤ x.f0.f1 by omega) h1.2.2, am _ h2.2.1 (by omega), am _ (show -1073741824 ≤ x.f1.f1 by omega) h2.2.2, Option.bind_some, mx_max']
  by_cases hb : max (max (max (max x.f0.f0 (-x.f0.f0)) (max x.f0.f1 (-x.f0.f1))) (max x.f1.f0 (-x.f1.f0))) (max x.f1.f1 (-x.f1.f1)) > 268435456
  ·rw [if_pos hb, if_neg]
   rw [Bool.true_and, Bool.and_eq_true, Bool.and_eq_true, Bool.and_eq_true, btwB_iff, btwB_iff, btwB_iff, btwB_iff]
   omega
  ·rw [if_neg hb, if_pos]
   rw [Bool.true_and, Bool.and_eq_true, Bool.and_eq_true, Bool.and_eq_true, btwB_iff, btwB_iff, btwB_iff, btwB_iff]
   omega
theorem box_any (x : S29) (w : World) : Calls Try.prog 51 #[.agg #[.int .i64 x.f0.f0, .int .i64 x.f0.f1, .int .i64 x.f1.f0, .int .i64 x.f1.f1]] w (RetB (.int .i64 (boxE x)) w) := bound_CheckBox.calls 4 _ _ _ _ _ w (box_some x)
def placeE (x : S29) (t : Int) : Int := if boxE x ≠ 0 then boxE x else if btwB t 0 1073741824 then 0 else 3
theorem place_some (x : S29) (t : Int) : glider_checkPlace.f 4 x.f0.f0 x.f0.f1 x.f1.f0 x.f1.f1 t = some (placeE x t) := by
 unfold glider_checkPlace.f placeE
 rw [box_some, Option.bind_some, btw_some, Option.bind_some]
 by_cases h : boxE x = 0
 ·rw [if_pos h, if_neg (show ¬ (boxE x ≠ 0) from fun h2 => h2 h)]
  cases btwB t 0 1073741824 <;> rfl
 ·rw [if_neg h, if_pos h]
theorem place_any (x : S29) (t : Int) (w : World) : Calls Try.prog 132 #[.agg #[.int .i64 x.f0.f0, .int .i64 x.f0.f1, .int .i64 x.f1.f0, .int .i64 x.f1.f1], .int .i64 t] w (RetB (.int .i64 (placeE x t)) w) := glider_checkPlace.calls 4 _ _ _ _ _ _ w (place_some x t)
/-- Is a course valid, for so many layers? -/
def crsB (layers : Int) (c : S76) : Bool := btwB c.f0 0 8 && decide (0 ≤ c.f1) && (decide (layers < 0) || decide (c.f1 < layers))
def crsE (l : List S76) (layers : Int) : Int := if l.length > 64 then 6 else if l.all (crsB layers) then 0 else 2
theorem crs_loop (layers : Int) (l : List S76) (hl : l.length ≤ 64) : ∀ (m i k : Nat), i + m = l.length → m < k → glider_checkCourses.l0 k layers l (l.length : Int) (i : Int) = some (if (l.drop i).all (crsB layers) then 0 else 2) := by
 intro m
 induction m with
 | zero =>
  intro i k h hk
  obtain ⟨k, rfl⟩ : ∃ q, k = q + 1 := ⟨k - 1, by omega⟩
  rw [glider_checkCourses.l0, if_neg (by omega), List.drop_of_length_le (by omega)]
  rfl
 | succ m ih =>
  intro i k h hk
  obtain ⟨k, rfl⟩ : ∃ q, k = q + 1 := ⟨k - 1, by omega⟩
  have hi : i < l.length := by omega
  have hr : rd_T76 l (i : Int) = l[i] := by
   unfold rd_T76
   rw [List.getD_eq_getElem?_getD, Int.toNat_natCast, List.getElem?_eq_getElem hi]
   rfl
  have hih := ih (i + 1) k (by omega) (by omega)
  rw [glider_checkCourses.l0, if_pos (by omega), if_pos (by omega), if_pos (by omega), hr, wrap_id' (by omega) (by omega), show ((i : Int) + 1) = ((i + 1 : Nat) : Int) by omega, hih, List.drop_eq_getElem_cons hi, List.all_cons]
  cases hb : crsB layers l[i] with
  | true =>
   have hb2 : crsB layers l[i] = true := hb
   unfold crsB at hb2
   simp only [Bool.and_eq_true, Bool.or_eq_true, decide_eq_true_eq, btwB_iff] at hb2
   rw [Bool.true_and, if_neg (by omega), if_neg (by omega), if_neg (by omega)]
   by_cases h0 : layers ≥ 0
   ·rw [if_pos h0, if_neg (by omega)]
   ·rw [if_neg h0]
  | false =>
   have hn : ¬ ((0 ≤ l[i].f0 ∧ l[i].f0 ≤ 8) ∧ 0 ≤ l[i].f1 ∧ (layers < 0 ∨ l[i].f1 < layers)) := fun h2 => by
    have : crsB layers l[i] = true := by
     unfold crsB
     simp only [Bool.and_eq_true, Bool.or_eq_true, decide_eq_true_eq, btwB_iff]
     exact ⟨⟨h2.1, h2.2.1⟩, h2.2.2⟩
    rw [this] at hb
    cases hb
   rw [Bool.false_and, if_neg (show ¬ (false = true) by decide)]
   by_cases a1 : l[i].f0 < 0
   ·rw [if_pos a1]
   ·rw [if_neg a1]
    by_cases a2 : l[i].f0 ≥ 9
    ·rw [if_pos a2]
    ·rw [if_neg a2]
     by_cases a3 : l[i].f1 < 0
     ·rw [if_pos a3]
     ·rw [if_neg a3, if_pos (by omega), if_pos (by omega)]
theorem crs_some (l : List S76) (layers : Int) : glider_checkCourses.f 66 l layers = some (crsE l layers) := by
 unfold glider_checkCourses.f crsE
 by_cases h : l.length > 64
 ·rw [if_pos (by omega), if_pos h]
 ·rw [if_neg (by omega), if_neg h]
  have := crs_loop layers l (by omega) l.length 0 66 (by omega) (by omega)
  rw [List.drop_zero] at this
  exact this
theorem crs_any (A : Option Addr) (c : Nat) (l : List S76) (layers : Int) (w : World) (hC : Kd.C k76 w A l.length l) (hc : l.length ≤ c) : Calls Try.prog 82 #[.slice A l.length c, .int .i64 layers] w (RetB (.int .i64 (crsE l layers)) w) := glider_checkCourses.calls 66 _ _ _ _ _ w hC hc (crs_some l layers)
theorem sea_two (s : Sea) : (seaE s = 0 ∧ seaB s = true) ∨ seaE s = 2 := by
 unfold seaE
 cases seaB s
 ·exact .inr rfl
 ·exact .inl ⟨rfl, rfl⟩
theorem veh_two (v : Veh) : (vehE v = 0 ∧ vehB v = true) ∨ vehE v = 2 := by
 unfold vehE
 cases vehB v
 ·exact .inr rfl
 ·exact .inl ⟨rfl, rfl⟩
theorem bndB_iff {lo hi a b : Int} : bndB lo hi a b = true ↔ (lo ≤ hi ∧ -1073741824 ≤ lo ∧ hi ≤ 1073741824) ∧ a ≤ lo ∧ hi ≤ b := by unfold bndB; simp only [Bool.and_eq_true, decide_eq_true_eq, okS_iff]; exact and_assoc
theorem seaB_ok {s : Sea} (h : seaB s = true) : SeaV s := by
 unfold seaB at h
 simp only [Bool.and_eq_true, decide_eq_true_eq, btwB_iff, Bool.not_eq_true'] at h
 obtain ⟨⟨⟨⟨⟨⟨⟨⟨⟨h0, h1⟩, h2⟩, h3⟩, h4⟩, h5⟩, h6⟩, h7⟩, h8⟩, h9⟩ := h
 refine ⟨⟨h0, h1, h2, h3, h4, h5, h6⟩, h7, h8, fun c hc => ?_⟩
 have := List.any_eq_false.1 h9 c hc
 unfold badC at this
 simp only [Bool.not_eq_true, Bool.or_eq_false_iff, Bool.not_eq_false', bndB_iff] at this
 omega
theorem vehB_ok {v : Veh} (h : vehB v = true) : VehN v := by
 unfold vehB at h
 simp only [Bool.and_eq_true, btwB_iff] at h
 exact ⟨h.1.1.1.1, h.1.1.1.2⟩
theorem boxB_ok {x : S29} (h : boxE x = 0) : BoxOK x := by
 unfold boxE at h
 cases hb : boxB x with
 | false => rw [hb] at h; cases h
 | true =>
  unfold boxB at hb
  simp only [Bool.and_eq_true, btwB_iff, okS_iff] at hb
  unfold BoxOK SmallB
  omega
def tripE (s : Sea) (v : Veh) : Int := if seaE s ≠ 0 then seaE s else vehE v
theorem tripE_ok {s : Sea} {v : Veh} (h : tripE s v = 0) : SeaV s ∧ VehN v := by
 unfold tripE at h
 rcases sea_two s with ⟨h1, h2⟩ | h1
 ·rw [if_neg (by omega)] at h
  rcases veh_two v with ⟨h3, h4⟩ | h3
  ·exact ⟨seaB_ok h2, vehB_ok h4⟩
  ·omega
 ·rw [if_pos (by omega)] at h
  omega
def TripPost (s : Sea) (v : Veh) (E : Int) (w : World) (e : Ending) (w' : World) : Prop :=
 ∃ ptr, e = .returned (.tuple #[.pointer ptr, .int .i64 E]) ∧ Below w.heap.size w w' ∧ ((tripE s v = 0 ∧ ∃ g, ptr = some ⟨g, 0, none⟩ ∧ w.heap.size ≤ g ∧ TripAt w' g s v) ∨ (tripE s v ≠ 0 ∧ ptr = none))
set_option maxRecDepth 100000 in
set_option maxHeartbeats 4000000 in
theorem newTrip_any (s : Sea) (v : Veh) (A7 A8 : Option Addr) (c7 c8 : Nat) (w : World) (h7 : s.shores.length ≤ c7) (hC7 : Kd.C Kd.bool w A7 s.shores.length s.shores) (h8 : s.currents.length ≤ c8) (hC8 : Kd.C k33 w A8 s.currents.length s.currents) :
  Calls Try.prog 131 #[.agg #[.int .i64 s.nx, .int .i64 s.ny, .int .i64 s.cell, .int .i64 s.slot, .int .i64 s.slots, .int .i64 s.layers, .int .i64 s.most, .slice A7 s.shores.length c7, .slice A8 s.currents.length c8], .agg #[.int .i64 v.speed, .int .i64 v.dive, .int .i64 v.use.f0, .int .i64 v.use.f1, .int .i64 v.drift.f0, .int .i64 v.drift.f1, .int .i64 v.reserve]] w (TripPost s v (tripE s v) w) := by
 have hu25 := Try.underlying25
 have hu41 := Try.underlying41
 have hu120 := Try.underlying120
 have HE : Hid (tripE s v = if seaE s ≠ 0 then seaE s else vehE v) := Lib.hid rfl
 go_enter Try.func131, Try.ntmps131
 go_wp2_with fail
 have m2 : Blk ((w.alloc (.cells #[.int .i64 s.nx, .int .i64 s.ny, .int .i64 s.cell, .int .i64 s.slot, .int .i64 s.slots, .int .i64 s.layers, .int .i64 s.most, .slice A7 s.shores.length c7, .slice A8 s.currents.length c8] 25)).alloc (.cells #[.int .i64 v.speed, .int .i64 v.dive, .int .i64 v.use.f0, .int .i64 v.use.f1, .int .i64 v.drift.f0, .int .i64 v.drift.f1, .int .i64 v.reserve] 41)) (w.heap.size) #[.int .i64 s.nx, .int .i64 s.ny, .int .i64 s.cell, .int .i64 s.slot, .int .i64 s.slots, .int .i64 s.layers, .int .i64 s.most, .slice A7 s.shores.length c7, .slice A8 s.currents.length c8] 25 := (blk_alloc zq20 _)
 have m3 : Blk ((w.alloc (.cells #[.int .i64 s.nx, .int .i64 s.ny, .int .i64 s.cell, .int .i64 s.slot, .int .i64 s.slots, .int .i64 s.layers, .int .i64 s.most, .slice A7 s.shores.length c7, .slice A8 s.currents.length c8] 25)).alloc (.cells #[.int .i64 v.speed, .int .i64 v.dive, .int .i64 v.use.f0, .int .i64 v.use.f1, .int .i64 v.drift.f0, .int .i64 v.drift.f1, .int .i64 v.reserve] 41)) (w.heap.size + 1) #[.int .i64 v.speed, .int .i64 v.dive, .int .i64 v.use.f0, .int .i64 v.use.f1, .int .i64 v.drift.f0, .int .i64 v.drift.f1, .int .i64 v.reserve] 41 := zq35
 have mB : Below w.heap.size w ((w.alloc (.cells #[.int .i64 s.nx, .int .i64 s.ny, .int .i64 s.cell, .int .i64 s.slot, .int .i64 s.slots, .int .i64 s.layers, .int .i64 s.most, .slice A7 s.shores.length c7, .slice A8 s.currents.length c8] 25)).alloc (.cells #[.int .i64 v.speed, .int .i64 v.dive, .int .i64 v.use.f0, .int .i64 v.use.f1, .int .i64 v.drift.f0, .int .i64 v.drift.f1, .int .i64 v.reserve] 41)) := (below_alloc (below_alloc (Below.refl w.heap.size w) _) _)
 have hsz_ : w.heap.size ≤ w.heap.size := Nat.le_refl _
 generalize hW_ : ((w.alloc (.cells #[.int .i64 s.nx, .int .i64 s.ny, .int .i64 s.cell, .int .i64 s.slot, .int .i64 s.slots, .int .i64 s.layers, .int .i64 s.most, .slice A7 s.shores.length c7, .slice A8 s.currents.length c8] 25)).alloc (.cells #[.int .i64 v.speed, .int .i64 v.dive, .int .i64 v.use.f0, .int .i64 v.use.f1, .int .i64 v.drift.f0, .int .i64 v.drift.f1, .int .i64 v.reserve] 41)) = W1 at m2 m3 mB ⊢
 clear hW_
 generalize hg2 : w.heap.size = g2 at m2 m3 ⊢
 have hG2 : w.heap.size ≤ g2 := by omega
 generalize hg3 : g2 + 1 = g3 at m3 ⊢
 have hn_2_3 : g2 ≠ g3 := by omega
 have hn_3_2 : g3 ≠ g2 := hn_2_3.symm
 have hG3 : w.heap.size ≤ g3 := by omega
 clear hsz_
 try clear hg3
 try clear hg2
 have hs_W1 : w.heap.size ≤ W1.heap.size := mB.size
 have hcon := sea_any s A7 A8 c7 c8 W1 h7 (Kd.C_below hC7 mB) h8 (Kd.C_below hC8 mB)
 (with_reducible refine hcon.mono ?_)
 clear hcon
 rintro e W2 ⟨rfl, hb⟩
 replace m2 := blk_below m2 hb
 replace m3 := blk_below m3 hb
 replace mB := below_step mB hb
 clear hb
 have hs_W2 : w.heap.size ≤ W2.heap.size := mB.size
 rcases sea_two s with ⟨h1, _⟩ | h1
 case inr =>
  have HZ : Hid (tripE s v = 2) := Lib.hid (HE.out.trans (by rw [h1]; rfl))
  rw [h1]
  clear h1 HE
  go_wp2
  go_ret2
  exact ⟨none, zq21, mB, .inr ⟨by rw [HZ.out]; decide, rfl⟩⟩
 case inl =>
  have HE2 := Lib.hid (HE.out.trans (if_neg (by omega)))
  clear HE
  rw [h1]
  clear h1
  obtain ⟨c3_0, c3_1, c3_2, c3_3, c3_4, c3_5, c3_6⟩ := zcs7 m3
  go_wp2_with fail
  clear c3_0 c3_1 c3_2 c3_3 c3_4 c3_5 c3_6
  have hcon := veh_any v W2
  (with_reducible refine hcon.mono ?_)
  clear hcon
  rintro e W3 ⟨rfl, hb⟩
  replace m2 := blk_below m2 hb
  replace m3 := blk_below m3 hb
  replace mB := below_step mB hb
  clear hb
  have hs_W3 : w.heap.size ≤ W3.heap.size := mB.size
  rcases veh_two v with ⟨h1, _⟩ | h1
  case inr =>
   have HE := HE2
   have HZ : Hid (tripE s v = 2) := Lib.hid (HE2.out.trans h1)
   rw [h1]
   clear h1 HE
   go_wp2
   go_ret2
   exact ⟨none, zq21, mB, .inr ⟨by rw [HZ.out]; decide, rfl⟩⟩
  case inl =>
   have HZ := Lib.hid (HE2.out.trans h1)
   rw [h1]
   clear h1 HE2
   obtain ⟨c2_0, c2_1, c2_2, c2_3, c2_4, c2_5, c2_6, c2_7, c2_8⟩ := zcs9 m2
   obtain ⟨c3_0, c3_1, c3_2, c3_3, c3_4, c3_5, c3_6⟩ := zcs7 m3
   go_wp2
   go_ret2
   exact ⟨_, zq21, below_alloc mB _, .inl ⟨HZ.out, W3.heap.size, rfl, mB.size, A7, c7, A8, c8, blk_new W3 (.cells #[.int .i64 s.nx, .int .i64 s.ny, .int .i64 s.cell, .int .i64 s.slot, .int .i64 s.slots, .int .i64 s.layers, .int .i64 s.most, .slice A7 s.shores.length c7, .slice A8 s.currents.length c8, .int .i64 v.speed, .int .i64 v.dive, .int .i64 v.use.f0, .int .i64 v.use.f1, .int .i64 v.drift.f0, .int .i64 v.drift.f1, .int .i64 v.reserve] 120), h7, Kd.C_below hC7 (below_alloc mB _), h8, Kd.C_below hC8 (below_alloc mB _)⟩⟩
def beginE (s : Sea) (v : Veh) (x : S29) (t : Int) : Int := if tripE s v ≠ 0 then tripE s v else placeE x t
set_option maxRecDepth 100000 in
set_option maxHeartbeats 4000000 in
theorem begin_any (s : Sea) (v : Veh) (x : S29) (t : Int) (A7 A8 : Option Addr) (c7 c8 : Nat) (w : World) (h7 : s.shores.length ≤ c7) (hC7 : Kd.C Kd.bool w A7 s.shores.length s.shores) (h8 : s.currents.length ≤ c8) (hC8 : Kd.C k33 w A8 s.currents.length s.currents) :
  Calls Try.prog 81 #[.agg #[.int .i64 s.nx, .int .i64 s.ny, .int .i64 s.cell, .int .i64 s.slot, .int .i64 s.slots, .int .i64 s.layers, .int .i64 s.most, .slice A7 s.shores.length c7, .slice A8 s.currents.length c8], .agg #[.int .i64 v.speed, .int .i64 v.dive, .int .i64 v.use.f0, .int .i64 v.use.f1, .int .i64 v.drift.f0, .int .i64 v.drift.f1, .int .i64 v.reserve], .agg #[.int .i64 x.f0.f0, .int .i64 x.f0.f1, .int .i64 x.f1.f0, .int .i64 x.f1.f1], .int .i64 t] w (TripPost s v (beginE s v x t) w) := by
 have hu25 := Try.underlying25
 have hu41 := Try.underlying41
 have hu29 := Try.underlying29
 have HE : Hid (beginE s v x t = if tripE s v ≠ 0 then tripE s v else placeE x t) := Lib.hid rfl
 go_enter Try.func81, Try.ntmps81
 go_wp2_with fail
 have m4 : Blk (((w.alloc (.cells #[.int .i64 s.nx, .int .i64 s.ny, .int .i64 s.cell, .int .i64 s.slot, .int .i64 s.slots, .int .i64 s.layers, .int .i64 s.most, .slice A7 s.shores.length c7, .slice A8 s.currents.length c8] 25)).alloc (.cells #[.int .i64 v.speed, .int .i64 v.dive, .int .i64 v.use.f0, .int .i64 v.use.f1, .int .i64 v.drift.f0, .int .i64 v.drift.f1, .int .i64 v.reserve] 41)).alloc (.cells #[.int .i64 x.f0.f0, .int .i64 x.f0.f1, .int .i64 x.f1.f0, .int .i64 x.f1.f1] 29)) (w.heap.size) #[.int .i64 s.nx, .int .i64 s.ny, .int .i64 s.cell, .int .i64 s.slot, .int .i64 s.slots, .int .i64 s.layers, .int .i64 s.most, .slice A7 s.shores.length c7, .slice A8 s.currents.length c8] 25 := (blk_alloc (blk_alloc zq20 _) _)
 have m5 : Blk (((w.alloc (.cells #[.int .i64 s.nx, .int .i64 s.ny, .int .i64 s.cell, .int .i64 s.slot, .int .i64 s.slots, .int .i64 s.layers, .int .i64 s.most, .slice A7 s.shores.length c7, .slice A8 s.currents.length c8] 25)).alloc (.cells #[.int .i64 v.speed, .int .i64 v.dive, .int .i64 v.use.f0, .int .i64 v.use.f1, .int .i64 v.drift.f0, .int .i64 v.drift.f1, .int .i64 v.reserve] 41)).alloc (.cells #[.int .i64 x.f0.f0, .int .i64 x.f0.f1, .int .i64 x.f1.f0, .int .i64 x.f1.f1] 29)) (w.heap.size + 1) #[.int .i64 v.speed, .int .i64 v.dive, .int .i64 v.use.f0, .int .i64 v.use.f1, .int .i64 v.drift.f0, .int .i64 v.drift.f1, .int .i64 v.reserve] 41 := (blk_alloc zq35 _)
 have m6 : Blk (((w.alloc (.cells #[.int .i64 s.nx, .int .i64 s.ny, .int .i64 s.cell, .int .i64 s.slot, .int .i64 s.slots, .int .i64 s.layers, .int .i64 s.most, .slice A7 s.shores.length c7, .slice A8 s.currents.length c8] 25)).alloc (.cells #[.int .i64 v.speed, .int .i64 v.dive, .int .i64 v.use.f0, .int .i64 v.use.f1, .int .i64 v.drift.f0, .int .i64 v.drift.f1, .int .i64 v.reserve] 41)).alloc (.cells #[.int .i64 x.f0.f0, .int .i64 x.f0.f1, .int .i64 x.f1.f0, .int .i64 x.f1.f1] 29)) (w.heap.size + 1 + 1) #[.int .i64 x.f0.f0, .int .i64 x.f0.f1, .int .i64 x.f1.f0, .int .i64 x.f1.f1] 29 := zq36
 have mB : Below w.heap.size w (((w.alloc (.cells #[.int .i64 s.nx, .int .i64 s.ny, .int .i64 s.cell, .int .i64 s.slot, .int .i64 s.slots, .int .i64 s.layers, .int .i64 s.most, .slice A7 s.shores.length c7, .slice A8 s.currents.length c8] 25)).alloc (.cells #[.int .i64 v.speed, .int .i64 v.dive, .int .i64 v.use.f0, .int .i64 v.use.f1, .int .i64 v.drift.f0, .int .i64 v.drift.f1, .int .i64 v.reserve] 41)).alloc (.cells #[.int .i64 x.f0.f0, .int .i64 x.f0.f1, .int .i64 x.f1.f0, .int .i64 x.f1.f1] 29)) := (below_alloc (below_alloc (below_alloc (Below.refl w.heap.size w) _) _) _)
 have hsz_ : w.heap.size ≤ w.heap.size := Nat.le_refl _
 generalize hW_ : (((w.alloc (.cells #[.int .i64 s.nx, .int .i64 s.ny, .int .i64 s.cell, .int .i64 s.slot, .int .i64 s.slots, .int .i64 s.layers, .int .i64 s.most, .slice A7 s.shores.length c7, .slice A8 s.currents.length c8] 25)).alloc (.cells #[.int .i64 v.speed, .int .i64 v.dive, .int .i64 v.use.f0, .int .i64 v.use.f1, .int .i64 v.drift.f0, .int .i64 v.drift.f1, .int .i64 v.reserve] 41)).alloc (.cells #[.int .i64 x.f0.f0, .int .i64 x.f0.f1, .int .i64 x.f1.f0, .int .i64 x.f1.f1] 29)) = W1 at m4 m5 m6 mB ⊢
 clear hW_
 generalize hg4 : w.heap.size = g4 at m4 m5 m6 ⊢
 have hG4 : w.heap.size ≤ g4 := by omega
 generalize hg5 : g4 + 1 = g5 at m5 m6 ⊢
 have hn_4_5 : g4 ≠ g5 := by omega
 have hn_5_4 : g5 ≠ g4 := hn_4_5.symm
 have hG5 : w.heap.size ≤ g5 := by omega
 generalize hg6 : g5 + 1 = g6 at m6 ⊢
 have hn_4_6 : g4 ≠ g6 := by omega
 have hn_5_6 : g5 ≠ g6 := by omega
 have hn_6_4 : g6 ≠ g4 := hn_4_6.symm
 have hn_6_5 : g6 ≠ g5 := hn_5_6.symm
 have hG6 : w.heap.size ≤ g6 := by omega
 clear hsz_
 try clear hg6
 try clear hg5
 try clear hg4
 have hs_W1 : w.heap.size ≤ W1.heap.size := mB.size
 have hcon := newTrip_any s v A7 A8 c7 c8 W1 h7 (Kd.C_below hC7 mB) h8 (Kd.C_below hC8 mB)
 (with_reducible refine hcon.mono ?_)
 clear hcon
 rintro e W2 ⟨ptr, rfl, hb, ⟨h0, g, rfl, hg, hT⟩ | ⟨h0, rfl⟩⟩
 case inr =>
  have HZ := Lib.hid (HE.out.trans (if_pos h0))
  replace mB := below_step mB hb
  clear hb HE
  have h00 := Lib.hid h0
  generalize hE_ : tripE s v = E0 at *
  have hE := Lib.hid hE_
  clear hE_
  have hd : (E0 == 0) = false := beq_eq_false_iff_ne.2 h0
  have hd2 : (E0 != 0) = true := by rw [bne, hd]; rfl
  clear h0
  go_wp2
  go_ret2
  exact ⟨none, zq21, mB, .inr ⟨by rw [hE.out]; exact h00.out, rfl⟩⟩
 case inl =>
  have HZ := Lib.hid (HE.out.trans (if_neg (fun h => h h0)))
  clear HE
  have hg0 : w.heap.size ≤ g := Nat.le_trans (m := W1.heap.size) (by assumption) hg
  replace m4 := blk_below m4 hb
  replace m5 := blk_below m5 hb
  replace m6 := blk_below m6 hb
  replace mB := below_step mB hb
  clear hb
  have H0 := Lib.hid h0
  rw [h0]
  clear h0
  have hs_W2 : w.heap.size ≤ W2.heap.size := mB.size
  obtain ⟨c6_0, c6_1, c6_2, c6_3⟩ := zcs4 m6
  go_wp2_with fail
  clear c6_0 c6_1 c6_2 c6_3
  have hcon := place_any x t W2
  (with_reducible refine hcon.mono ?_)
  clear hcon
  rintro e W3 ⟨rfl, hb⟩
  replace hT := hT.below hb
  replace m4 := blk_below m4 hb
  replace m5 := blk_below m5 hb
  replace m6 := blk_below m6 hb
  replace mB := below_step mB hb
  clear hb
  go_wp2
  go_ret2
  exact ⟨_, zq21, mB, .inl ⟨H0.out, g, rfl, hg0, hT⟩⟩
end Go.Proofs.Ythglkoddmpicdaa.Gl
end
