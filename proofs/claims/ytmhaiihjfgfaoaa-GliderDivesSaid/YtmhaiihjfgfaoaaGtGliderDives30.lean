/- Part 30 of the proof of GliderDives: what the functions compute. No condition. -/
import Derived.Test.YtmhaiihjfgfaoaaGtGliderDives3
import Derived.Test.YtmhaiihjfgfaoaaGtGliderDives29
import Derived.Test.YtmhaiihjfgfaoaaGtGliderDives27
import Derived.Test.YtmhaiihjfgfaoaaGtGliderDives24
import Derived.Test.YtmhaiihjfgfaoaaGtGliderDives26
import Derived.Test.YtmhaiihjfgfaoaaGtGliderDives28
section
/- What the document's answer says of dives and runs: the same as the program. -/
namespace Go.Proofs.Ytmhaiihjfgfaoaa.Gl
open Go.RowKit Go.Proofs.YtmhaiihjfgfaoaaW.PrintWords Go.Proofs.YtmhaiihjfgfaoaaW.PrintLast Go.Proofs.YtmhaiihjfgfaoaaW.PrintMore Go.Proofs.Ytmhaiihjfgfaoaa.Pr
set_option linter.unusedVariables false
theorem ref_down1000 (k : Nat) (a : Int) (h : -4611686018427387904 ≤ a ∧ a ≤ 4611686018427387904) : isobathref01_Down.f (k + 1) a 1000 = some (a / 1000) := by
 rw [isobathref01_Down.f, if_neg (by omega), if_neg (by omega)]
 by_cases h0 : 0 ≤ a
 ·rw [Int.tmod_eq_emod_of_nonneg h0, Int.tdiv_eq_ediv_of_nonneg h0, if_neg (by omega), w64_id (by omega)]
 ·obtain ⟨b, rfl⟩ : ∃ b, a = -b := ⟨-a, by omega⟩
  rw [Int.neg_tmod, Int.neg_tdiv, Int.tmod_eq_emod_of_nonneg (show 0 ≤ b by omega), Int.tdiv_eq_ediv_of_nonneg (show 0 ≤ b by omega)]
  by_cases h1 : -(b % 1000) < 0
  ·rw [if_pos h1, w64_id (x := -(b / 1000)) (by omega), w64_id (by omega)]
   congr 1; omega
  ·rw [if_neg h1, w64_id (by omega)]
   congr 1; omega
theorem ref_down1000000 (k : Nat) (a : Int) (h : -4611686018427387904 ≤ a ∧ a ≤ 4611686018427387904) : isobathref01_Down.f (k + 1) a 1000000 = some (downM a) := by
 unfold downM
 rw [isobathref01_Down.f, if_neg (by omega), if_neg (by omega)]
 by_cases h0 : 0 ≤ a
 ·rw [Int.tmod_eq_emod_of_nonneg h0, Int.tdiv_eq_ediv_of_nonneg h0, if_neg (by omega), w64_id (by omega)]
 ·obtain ⟨b, rfl⟩ : ∃ b, a = -b := ⟨-a, by omega⟩
  rw [Int.neg_tmod, Int.neg_tdiv, Int.tmod_eq_emod_of_nonneg (show 0 ≤ b by omega), Int.tdiv_eq_ediv_of_nonneg (show 0 ≤ b by omega)]
  by_cases h1 : -(b % 1000000) < 0
  ·rw [if_pos h1, w64_id (x := -(b / 1000000)) (by omega), w64_id (by omega)]
   congr 1; omega
  ·rw [if_neg h1, w64_id (by omega)]
   congr 1; omega
theorem ref_up1000 (k : Nat) (a : Int) (h : 0 ≤ a ∧ a ≤ 4611686018427387904) : isobathref01_Up.f (k + 1) a 1000 = some ((a + 999) / 1000) := by
 unfold isobathref01_Up.f
 rw [w64_id (x := -a) (by omega), ref_down1000 k (-a) (by omega), Option.bind_some, w64_id (by omega)]
 congr 1; omega
theorem ref_up1000000 (k : Nat) (a : Int) (h : -4611686018427387904 ≤ a ∧ a ≤ 4611686018427387904) : isobathref01_Up.f (k + 1) a 1000000 = some (upM a) := by
 unfold isobathref01_Up.f upM
 rw [w64_id (x := -a) (by omega), ref_down1000000 k (-a) (by omega), Option.bind_some]
 unfold downM
 rw [w64_id (by omega)]
theorem ref_grown {s : Sea} {v : Veh} {x : S31} (hS : SeaN s) (hV : VehN v) (hx : SmallB x) (k : Nat) : isobathref03_Grown.f (k + 1) s.nx s.ny s.cell s.slot s.slots s.layers s.most s.shores s.currents v.speed v.dive v.use.f0 v.use.f1 v.drift.f0 v.drift.f1 v.reserve x.f0.f0 x.f0.f1 x.f1.f0 x.f1.f1 = some ((grownI s v x).f0.f0, (grownI s v x).f0.f1, (grownI s v x).f1.f0, (grownI s v x).f1.f1) := by
 have n1 := hV.speed; have n2 := hV.dive; have n3 := hS.most
 obtain ⟨p0, p1⟩ := mul_in (a := v.speed + s.most) (b := v.dive) (m := 10000) (n := 131072) (by omega) (by omega) (by omega) (by omega)
 obtain ⟨x0, x1, x2, x3⟩ := hx
 unfold isobathref03_Grown.f grownI
 rw [w64_id (x := v.speed + s.most) (by omega), w64_id (x := (v.speed + s.most) * v.dive) (by omega), ref_up1000 k _ (by omega), Option.bind_some]
 generalize hm : ((v.speed + s.most) * v.dive + 999) / 1000 = m at *
 rw [w64_id (x := x.f0.f0 - m) (by omega), w64_id (x := x.f0.f1 + m) (by omega), w64_id (x := x.f1.f0 - m) (by omega), w64_id (x := x.f1.f1 + m) (by omega)]
theorem ref_inSea {s : Sea} (hS : SeaN s) (x : S31) : isobathref03_inSea.f s.nx s.ny s.cell s.slot s.slots s.layers s.most s.shores s.currents x.f0.f0 x.f0.f1 x.f1.f0 x.f1.f1 = some (containsI s x) := by
 have n1 := hS.nx; have n2 := hS.ny; have n3 := hS.cell
 obtain ⟨a0, a1⟩ := mul_in (a := s.nx) (b := s.cell) (m := 12) (n := 65536) (by omega) (by omega) (by omega) (by omega)
 obtain ⟨b0, b1⟩ := mul_in (a := s.ny) (b := s.cell) (m := 12) (n := 65536) (by omega) (by omega) (by omega) (by omega)
 unfold isobathref03_inSea.f containsI
 rw [w64_id (x := s.nx * s.cell) (by omega), w64_id (x := s.ny * s.cell) (by omega)]
 by_cases g1 : 0 ≤ x.f0.f0 <;> by_cases g2 : x.f0.f1 ≤ s.nx * s.cell <;> by_cases g3 : 0 ≤ x.f1.f0 <;> simp [g1, g2, g3]
theorem ref_inTime {s : Sea} (hS : SeaN s) (t u : Int) : isobathref03_inTime.f s.nx s.ny s.cell s.slot s.slots s.layers s.most s.shores s.currents t u = some (knownI s t u) := by
 have n4 := hS.slot; have n5 := hS.slots
 obtain ⟨d0, d1⟩ := mul_in (a := s.slots) (b := s.slot) (m := 16) (n := 1048576) (by omega) (by omega) (by omega) (by omega)
 unfold isobathref03_inTime.f knownI
 rw [w64_id (x := s.slots * s.slot) (by omega)]
 by_cases g1 : 0 ≤ t <;> simp [g1]
/-- May a dive begin here? -/
def mayB (s : Sea) (v : Veh) (x : S31) (t : Int) : Bool := containsI s (grownI s v x) && knownI s t (t + v.dive)
theorem reachE_may (s : Sea) (v : Veh) (x : S31) (t : Int) : reachE s v x t = if mayB s v x t = true then 0 else 5 := rfl
theorem ref_possible {s : Sea} {v : Veh} {x : S31} {t : Int} (hS : SeaN s) (hV : VehN v) (hx : SmallB x) (ht : 0 ≤ t ∧ t ≤ 1099511627776) (k : Nat) : isobathref03_possible.f (k + 1) s.nx s.ny s.cell s.slot s.slots s.layers s.most s.shores s.currents v.speed v.dive v.use.f0 v.use.f1 v.drift.f0 v.drift.f1 v.reserve x.f0.f0 x.f0.f1 x.f1.f0 x.f1.f1 t = some (mayB s v x t) := by
 have n2 := hV.dive
 unfold isobathref03_possible.f mayB
 rw [ref_grown hS hV hx k, Option.bind_some]
 refine Eq.trans (congrArg (fun o => Option.bind o _) (ref_inSea hS (grownI s v x))) ?_
 rw [Option.bind_some, w64_id (x := t + v.dive) (by omega), ref_inTime hS, Option.bind_some]
 cases containsI s (grownI s v x) <;> rfl
theorem safe_loop (s : Sea) (v : Veh) (x : S31) (hS : SeaN s) (hV : VehN v) (hx : SmallB x) (hsh : (s.shores.length : Int) = s.nx * s.ny) : ∀ (m i K : Nat), (i : Int) + (m : Int) = s.nx * s.ny → m + 2 ≤ K →
  isobathref03_safe.l0 K (i : Int) s.nx s.ny s.cell s.slot s.slots s.layers s.most s.shores s.currents v.speed v.dive v.use.f0 v.use.f1 v.drift.f0 v.drift.f1 v.reserve x.f0.f0 x.f0.f1 x.f1.f0 x.f1.f1
   = some (!(List.range m).any fun r => rdOf false s.shores ((i : Int) + (r : Int)) && touchR s (grownI s v x) ((i : Int) + (r : Int)))
 | 0, i, K + 1, h, hk => by
  have n1 := hS.nx; have n2 := hS.ny
  obtain ⟨p0, p1⟩ := mul_in (a := s.nx) (b := s.ny) (m := 12) (n := 12) (by omega) (by omega) (by omega) (by omega)
  rw [isobathref03_safe.l0, w64_id (x := s.nx * s.ny) (by omega), if_neg (by omega)]; rfl
 | m + 1, i, K + 1, h, hk => by
  obtain ⟨K, rfl⟩ : ∃ z, K = z + 1 := ⟨K - 1, by omega⟩
  have n1 := hS.nx; have n2 := hS.ny
  obtain ⟨p0, p1⟩ := mul_in (a := s.nx) (b := s.ny) (m := 12) (n := 12) (by omega) (by omega) (by omega) (by omega)
  have ih := safe_loop s v x hS hV hx hsh m (i + 1) (K + 1) (by omega) (by omega)
  have e1 : ∀ r : Nat, ((i + 1 : Nat) : Int) + (r : Int) = (i : Int) + ((r + 1 : Nat) : Int) := fun r => by omega
  simp only [e1] at ih
  have e2 : (List.range (m + 1)).any (fun r => rdOf false s.shores ((i : Int) + (r : Int)) && touchR s (grownI s v x) ((i : Int) + (r : Int))) = ((rdOf false s.shores (i : Int) && touchR s (grownI s v x) (i : Int)) || (List.range m).any fun r => rdOf false s.shores ((i : Int) + ((r + 1 : Nat) : Int)) && touchR s (grownI s v x) ((i : Int) + ((r + 1 : Nat) : Int))) := by
   rw [List.range_succ_eq_map, List.any_cons, List.any_map]
   simp only [Int.ofNat_zero, Int.natCast_zero, Int.add_zero]
   rfl
  rw [isobathref03_safe.l0, w64_id (x := s.nx * s.ny) (by omega), if_pos (by omega), if_pos (by omega), if_pos (by omega), w64_id (x := (i : Int) + 1) (by omega), show (i : Int) + 1 = ((i + 1 : Nat) : Int) from by omega, ih, e2]
  cases hr : rdOf false s.shores (i : Int) with
  | false => rw [if_neg (by decide), Bool.false_and, Bool.false_or]
  | true =>
   rw [if_pos rfl, ref_grown hS hV hx K, Option.bind_some, ref_cell s hS (i : Int) (by omega) (by omega), Option.bind_some]
   refine Eq.trans (congrArg (fun o => Option.bind o _) (ref_touches (grownI s v x) _ _ _ _)) ?_
   rw [Option.bind_some]
   have et : ((decide ((grownI s v x).f0.f0 ≤ ((i : Int) % s.nx + 1) * s.cell) && decide ((i : Int) % s.nx * s.cell ≤ (grownI s v x).f0.f1)) && (decide ((grownI s v x).f1.f0 ≤ ((i : Int) / s.nx + 1) * s.cell) && decide ((i : Int) / s.nx * s.cell ≤ (grownI s v x).f1.f1))) = touchR s (grownI s v x) (i : Int) := rfl
   rw [et]
   cases touchR s (grownI s v x) (i : Int) with
   | true => rfl
   | false => rw [if_neg (by decide), Bool.and_false, Bool.false_or]
theorem ref_safe {s : Sea} {v : Veh} {x : S31} (hS : SeaN s) (hV : VehN v) (hx : BoxOK x) (hsh : (s.shores.length : Int) = s.nx * s.ny) (hc : containsI s (grownI s v x) = true) (K : Nat) (hk : 146 ≤ K) :
  isobathref03_safe.f K s.nx s.ny s.cell s.slot s.slots s.layers s.most s.shores s.currents v.speed v.dive v.use.f0 v.use.f1 v.drift.f0 v.drift.f1 v.reserve x.f0.f0 x.f0.f1 x.f1.f0 x.f1.f1 = some (decide (safeE s (grownI s v x) = 0)) := by
 have n1 := hS.nx; have n2 := hS.ny
 obtain ⟨p0, p1⟩ := mul_in (a := s.nx) (b := s.ny) (m := 12) (n := 12) (by omega) (by omega) (by omega) (by omega)
 obtain ⟨g0, g1⟩ := grown_ok (s := s) hS hV hx
 unfold isobathref03_safe.f
 have := safe_loop s v x hS hV hx.1 hsh (s.nx * s.ny).toNat 0 K (by omega) (by omega)
 rw [show ((0 : Nat) : Int) = 0 from rfl] at this
 rw [this, Option.some.injEq]
 have he : (List.range (s.nx * s.ny).toNat).any (fun r => rdOf false s.shores (0 + (r : Int)) && touchR s (grownI s v x) (0 + (r : Int))) = (touchL s (grownI s v x)).any (fun c => rdOf false s.shores c) := by
  rw [Bool.eq_iff_iff, List.any_eq_true, List.any_eq_true]
  constructor
  ·rintro ⟨r, hr, h⟩
   rw [List.mem_range] at hr
   rw [Int.zero_add, Bool.and_eq_true] at h
   exact ⟨_, (touch_iff hS g0 g1 hc).2 ⟨by omega, h.2⟩, h.1⟩
  ·rintro ⟨c, hcm, h⟩
   obtain ⟨hb, ht⟩ := (touch_iff hS g0 g1 hc).1 hcm
   refine ⟨c.toNat, by rw [List.mem_range]; omega, ?_⟩
   rw [Int.zero_add, show ((c.toNat : Nat) : Int) = c from by omega, h, ht]; rfl
 rw [he]
 unfold safeE
 cases (touchL s (grownI s v x)).any (fun c => rdOf false s.shores c) <;> rfl
theorem ref_dir {h : Int} (h0 : 0 ≤ h) (h1 : h ≤ 8) : isobathref03_Direction.f h = some ((dirI h).1, (dirI h).2) := by
 have : h = 0 ∨ h = 1 ∨ h = 2 ∨ h = 3 ∨ h = 4 ∨ h = 5 ∨ h = 6 ∨ h = 7 ∨ h = 8 := by omega
 rcases this with rfl | rfl | rfl | rfl | rfl | rfl | rfl | rfl | rfl <;> rfl
theorem ref_moved {a u : S27} {sp d : Int} (hd : 1 ≤ d ∧ d ≤ 131072) (ha0 : -1099511627776 ≤ a.f0 ∧ a.f0 ≤ 1099511627776) (ha1 : -1099511627776 ≤ a.f1 ∧ a.f1 ≤ 1099511627776) (hs0 : -5000000 ≤ sp ∧ sp ≤ 5000000) (hu0 : -5000 ≤ u.f0 ∧ u.f0 ≤ 5000) (hu1 : -5000 ≤ u.f1 ∧ u.f1 ≤ 5000) (k : Nat) :
  isobathref03_moved.f (k + 1) a.f0 a.f1 sp u.f0 u.f1 d = some ((shiftI d a sp u).f0, (shiftI d a sp u).f1) := by
 have m0 := mul_abs (a := sp + 1000 * u.f0) (b := d) (m := 10000000) (n := 131072) (by omega) (by omega) (by omega) (by omega) (by omega)
 have m1 := mul_abs (a := sp + 1000 * u.f1) (b := d) (m := 10000000) (n := 131072) (by omega) (by omega) (by omega) (by omega) (by omega)
 unfold isobathref03_moved.f shiftI
 rw [w64_id (x := 1000 * u.f0) (by omega), w64_id (x := 1000 * u.f1) (by omega), w64_id (x := sp + 1000 * u.f0) (by omega), w64_id (x := sp + 1000 * u.f1) (by omega), w64_id (x := (sp + 1000 * u.f0) * d) (by omega), w64_id (x := (sp + 1000 * u.f1) * d) (by omega), ref_down1000000 k _ (by omega), Option.bind_some, ref_up1000000 k _ (by omega), Option.bind_some]
 have e0 : wrap64 (a.f0 + downM ((sp + 1000 * u.f0) * d)) = a.f0 + downM ((sp + 1000 * u.f0) * d) := w64_id (by unfold downM; omega)
 have e1 : wrap64 (a.f1 + upM ((sp + 1000 * u.f1) * d)) = a.f1 + upM ((sp + 1000 * u.f1) * d) := w64_id (by unfold upM; omega)
 rw [e0, e1]
theorem ref_ends {s : Sea} {v : Veh} {x : S31} {t hd layer : Int} (hS : SeaV s) (hV : VehN v) (hx : BoxOK x) (hh0 : 0 ≤ hd) (hh1 : hd ≤ 8) (hl0 : 0 ≤ layer) (hl1 : layer < s.layers) (hm : mayB s v x t = true) (K : Nat) (hk : 2400 ≤ K) :
  isobathref03_Ends.f K s.nx s.ny s.cell s.slot s.slots s.layers s.most s.shores s.currents v.speed v.dive v.use.f0 v.use.f1 v.drift.f0 v.drift.f1 v.reserve x.f0.f0 x.f0.f1 x.f1.f0 x.f1.f1 t hd layer = some ((endsI s v x (grownI s v x) t hd layer).f0.f0, (endsI s v x (grownI s v x) t hd layer).f0.f1, (endsI s v x (grownI s v x) t hd layer).f1.f0, (endsI s v x (grownI s v x) t hd layer).f1.f1) := by
 obtain ⟨K, rfl⟩ : ∃ z, K = z + 1 := ⟨K - 1, by omega⟩
 have hre : reachE s v x t = 0 := by rw [reachE_may, if_pos hm]
 obtain ⟨hin, ⟨ht0, ht1⟩, _⟩ := reach_ok hS.n hV hx hre
 obtain ⟨g0, g1⟩ := grown_ok (s := s) hS.n hV hx
 unfold mayB at hm
 rw [Bool.and_eq_true] at hm
 have n5 := hS.n.slots; have n4 := hS.n.slot; have nd := hV.dive; have nsp := hV.speed
 obtain ⟨d0, d1⟩ := mul_in (a := s.slots) (b := s.slot) (m := 16) (n := 1048576) (by omega) (by omega) (by omega) (by omega)
 have hat : isobathref03_at.f (K + 1) s.nx s.ny s.cell s.slot s.slots s.layers s.most s.shores s.currents (grownI s v x).f0.f0 (grownI s v x).f0.f1 (grownI s v x).f1.f0 (grownI s v x).f1.f1 layer t (t + v.dive) = some ((atI s (grownI s v x) layer t (t + v.dive)).f0.f0, (atI s (grownI s v x) layer t (t + v.dive)).f0.f1, (atI s (grownI s v x) layer t (t + v.dive)).f1.f0, (atI s (grownI s v x) layer t (t + v.dive)).f1.f1) := by
  rw [← ref_boxes hS.n g0 g1 hm.1 ht0 (by omega) ht1]
  unfold isobathref03_at.f
  have := ref_slots s (grownI s v x) layer t (t + v.dive) hS.n hS.cu hl0 hl1 s.slots.toNat 0 (K + 1) [] (Int.le_refl _) (by omega) (by omega)
  rw [List.nil_append] at this
  exact this
 unfold isobathref03_Ends.f
 rw [ref_dir hh0 hh1, Option.bind_some, ref_grown hS.n hV hx.1 K, Option.bind_some, w64_id (x := t + v.dive) (by omega), hat, Option.bind_some]
 have hai := at_in hS.cb (grownI s v x) layer t (t + v.dive)
 have hdi := dirI_in hd
 unfold endsI
 generalize atI s (grownI s v x) layer t (t + v.dive) = y at *
 generalize dirI hd = d at *
 obtain ⟨y0, y1, y2, y3, y8, y9⟩ := hai
 have m0 := mul_abs (a := d.1) (b := v.speed) (m := 1000) (n := 5000) hdi.1.1 hdi.1.2 nsp.1 nsp.2 (by omega)
 have m1 := mul_abs (a := d.2) (b := v.speed) (m := 1000) (n := 5000) hdi.2.1 hdi.2.2 nsp.1 nsp.2 (by omega)
 obtain ⟨⟨x0, x1, x2, x3⟩, _⟩ := hx
 rw [w64_id (x := d.1 * v.speed) (by omega), w64_id (x := d.2 * v.speed) (by omega)]
 refine Eq.trans (congrArg (fun o => Option.bind o _) (ref_moved (a := x.f0) (u := y.f0) nd x0 x1 (by omega) y0 y1 K)) ?_
 rw [Option.bind_some]
 refine Eq.trans (congrArg (fun o => Option.bind o _) (ref_moved (a := x.f1) (u := y.f1) nd x2 x3 (by omega) y2 y3 K)) ?_
 rw [Option.bind_some]
theorem ref_dive {s : Sea} {v : Veh} {x : S31} {t hd layer : Int} (hS : SeaV s) (hV : VehN v) (hx : BoxOK x) (ht : 0 ≤ t ∧ t ≤ 1099511627776) (hh0 : 0 ≤ hd) (hh1 : hd ≤ 8) (hl0 : 0 ≤ layer) (hl1 : layer < s.layers) (K : Nat) (hk : 2400 ≤ K) :
  isobathref03_dive.f K s.nx s.ny s.cell s.slot s.slots s.layers s.most s.shores s.currents v.speed v.dive v.use.f0 v.use.f1 v.drift.f0 v.drift.f1 v.reserve x.f0.f0 x.f0.f1 x.f1.f0 x.f1.f1 t hd layer = some ((diveV s v x t hd layer).f0.f0, (diveV s v x t hd layer).f0.f1, (diveV s v x t hd layer).f1.f0, (diveV s v x t hd layer).f1.f1, diveE s v x t) := by
 obtain ⟨k, rfl⟩ : ∃ z, K = z + 1 := ⟨K - 1, by omega⟩
 unfold isobathref03_dive.f
 rw [ref_possible hS.n hV hx.1 ht k, Option.bind_some]
 cases hm : mayB s v x t with
 | false =>
  have hE : diveE s v x t = 5 := by unfold diveE; rw [reachE_may, hm, if_neg (show ¬(false = true) by decide), if_pos (by decide)]
  unfold diveV
  rw [hE, if_neg (by decide), if_neg (by decide)]; rfl
 | true =>
  have hE : diveE s v x t = safeE s (grownI s v x) := by unfold diveE; rw [reachE_may, hm, if_pos rfl, if_neg (by decide)]
  have hc : containsI s (grownI s v x) = true := by unfold mayB at hm; exact (Bool.and_eq_true_iff.1 hm).1
  rw [if_pos rfl, ref_safe hS.n hV hx hS.sh hc (k + 1) (by omega), Option.bind_some]
  unfold diveV
  rw [hE]
  rcases safe_two s (grownI s v x) with h | h
  ·rw [h, if_pos (by decide), if_pos rfl, ref_ends hS hV hx hh0 hh1 hl0 hl1 hm (k + 1) hk, Option.bind_some]
  ·rw [h, if_neg (by decide), if_neg (by decide)]; rfl
theorem ref_place (x : S31) (t : Int) : isobathref03_place.f x.f0.f0 x.f0.f1 x.f1.f0 x.f1.f1 t = some (placeE x t) := by
 unfold isobathref03_place.f placeE boxE btwB
 rw [ref_box, Option.bind_some]
 cases boxB x with
 | false => rfl
 | true =>
  by_cases h1 : t < 0
  ·rw [if_pos rfl, if_pos h1, decide_eq_false (show ¬(0 ≤ t) by omega)]; rfl
  ·rw [if_pos rfl, if_neg h1, decide_eq_true (show 0 ≤ t by omega)]
   by_cases h2 : t > 1073741824
   ·rw [if_pos h2, decide_eq_false (show ¬(t ≤ 1073741824) by omega)]; rfl
   ·rw [if_neg h2, decide_eq_true (show t ≤ 1073741824 by omega)]; rfl
theorem ref_both (s : Sea) (v : Veh) (K : Nat) (hl : s.currents.length ≤ 100000) (hk : s.currents.length + 3 ≤ K) : isobathref03_both.f K s.nx s.ny s.cell s.slot s.slots s.layers s.most s.shores s.currents v.speed v.dive v.use.f0 v.use.f1 v.drift.f0 v.drift.f1 v.reserve = some (tripE s v) := by
 unfold isobathref03_both.f tripE
 rw [ref_sea s K hl hk, Option.bind_some, Option.bind_some, ref_veh, Option.bind_some]
 by_cases h : seaE s = 0
 ·rw [if_pos h, if_neg (fun q => q h)]
 ·rw [if_neg h, if_pos h]
theorem ref_Dive (s : Sea) (v : Veh) (x : S31) (t hd layer : Int) (K : Nat) (hl : s.currents.length ≤ 100000) (hk : s.currents.length + 3 ≤ K) (hk' : 2400 ≤ K) :
  isobathref03_Dive.f K s.nx s.ny s.cell s.slot s.slots s.layers s.most s.shores s.currents v.speed v.dive v.use.f0 v.use.f1 v.drift.f0 v.drift.f1 v.reserve x.f0.f0 x.f0.f1 x.f1.f0 x.f1.f1 t hd layer = some ((DiveV s v x t hd layer).f0.f0, (DiveV s v x t hd layer).f0.f1, (DiveV s v x t hd layer).f1.f0, (DiveV s v x t hd layer).f1.f1, DiveE s v x t hd layer) := by
 unfold isobathref03_Dive.f
 have hno : ∀ e : Int, e ≠ 0 → DiveE s v x t hd layer = e → some (0, 0, 0, 0, e) = some ((DiveV s v x t hd layer).f0.f0, (DiveV s v x t hd layer).f0.f1, (DiveV s v x t hd layer).f1.f0, (DiveV s v x t hd layer).f1.f1, DiveE s v x t hd layer) := by
  intro e he h
  unfold DiveV
  rw [h, if_neg he]; rfl
 have hu : DiveE s v x t hd layer = if beginE s v x t ≠ 0 then beginE s v x t else if crsE [⟨hd, layer⟩] s.layers ≠ 0 then crsE [⟨hd, layer⟩] s.layers else diveE s v x t := rfl
 have hub : beginE s v x t = if tripE s v ≠ 0 then tripE s v else placeE x t := rfl
 rw [ref_both s v K hl hk, Option.bind_some]
 by_cases h1 : tripE s v = 0
 ·rw [if_pos h1, ref_place, Option.bind_some]
  rw [if_neg (fun q => q h1)] at hub
  rw [hub] at hu
  by_cases h2 : placeE x t = 0
  ·rw [if_pos h2]
   try rw [Option.bind_some]
   rw [ref_crs _ _ K (by omega), Option.bind_some]
   rw [if_neg (fun q => q h2)] at hu
   by_cases h3 : crsE [⟨hd, layer⟩] s.layers = 0
   ·rw [if_pos h3]
    rw [if_neg (fun q => q h3)] at hu
    obtain ⟨hS, hV⟩ := tripE_ok h1
    obtain ⟨hx, ht0, ht1⟩ := place_ok h2
    obtain ⟨⟨hh0, hh1⟩, hl0, hl1⟩ := crs_one hS.n.layers.1 h3
    rw [ref_dive hS hV hx ⟨ht0, by omega⟩ hh0 hh1 hl0 hl1 K hk', Option.bind_some]
    have hv : DiveV s v x t hd layer = diveV s v x t hd layer := by
     unfold DiveV diveV
     rw [hu]
     by_cases hz : diveE s v x t = 0
     ·rw [if_pos hz, if_pos hz]
     ·rw [if_neg hz, if_neg hz]
    rw [hv, hu]
   ·rw [if_neg h3]
    rw [if_pos h3] at hu
    try rw [Option.bind_some, ref_crs _ _ K (by omega), Option.bind_some]
    exact hno _ h3 hu
  ·rw [if_neg h2]
   rw [if_pos h2] at hu
   try rw [Option.bind_some]
   exact hno _ h2 hu
 ·rw [if_neg h1]
  rw [if_pos h1] at hub
  rw [hub, if_pos h1] at hu
  try rw [Option.bind_some]
  exact hno _ h1 hu
theorem ref_run_loop (s : Sea) (v : Veh) (t : Int) (l : List S33) (hS : SeaV s) (hV : VehN v) (ht : 0 ≤ t ∧ t ≤ 1073741824) (hl : l.length ≤ 64) (hall : l.all (crsB s.layers) = true) : ∀ (m i K : Nat) (x : S31) (out : List S31), i + m = l.length → m + 2401 ≤ K → BoxOK x → out.length = i →
  isobathref03_run.l0 K t l out (i : Int) s.nx s.ny s.cell s.slot s.slots s.layers s.most s.shores s.currents v.speed v.dive v.use.f0 v.use.f1 v.drift.f0 v.drift.f1 v.reserve x.f0.f0 x.f0.f1 x.f1.f0 x.f1.f1 = some (ranI s v (l.drop i) x (t + (i : Int) * v.dive) (i : Int) out)
 | 0, i, K + 1, x, out, h, hk, hx, ho => by
  obtain rfl : i = l.length := by omega
  rw [isobathref03_run.l0, if_neg (by omega), List.drop_length]; rfl
 | m + 1, i, K + 1, x, out, h, hk, hx, ho => by
  have hi : i < l.length := by omega
  have e : rd_T33 l (i : Int) = l[i] := by
   unfold rd_T33
   simp [hi]
  have nd := hV.dive
  obtain ⟨q0, q1⟩ := mul_in (a := (i : Int)) (b := v.dive) (m := 64) (n := 131072) (by omega) (by omega) (by omega) (by omega)
  obtain ⟨⟨hh0, hh1⟩, hl0, hl1⟩ := crsB_ok hS.n.layers.1 (List.all_eq_true.1 hall l[i] (List.getElem_mem hi))
  rw [isobathref03_run.l0, if_pos (by omega), if_pos (by omega), w64_id (x := (i : Int) * v.dive) (by omega), w64_id (x := t + (i : Int) * v.dive) (by omega), e, List.drop_eq_getElem_cons hi, ranI, ref_dive hS hV hx ⟨by omega, by omega⟩ hh0 hh1 hl0 hl1 K (by omega), Option.bind_some]
  by_cases hE : diveE s v x (t + (i : Int) * v.dive) = 0
  ·refine Eq.trans (if_pos hE) ?_
   rw [if_pos (show out.length < 4398046511104 by omega), if_neg (fun q => q hE), w64_id (x := (i : Int) + 1) (by omega)]
   have ih := ref_run_loop s v t l hS hV ht hl hall m (i + 1) K (diveV s v x (t + (i : Int) * v.dive) l[i].f0 l[i].f1) (out ++ [diveV s v x (t + (i : Int) * v.dive) l[i].f0 l[i].f1]) (by omega) (by omega) (dive_box hS hV hx hE) (by rw [List.length_append, ho]; rfl)
   rw [show ((i + 1 : Nat) : Int) = (i : Int) + 1 from by omega, Int.add_mul, Int.one_mul, ← Int.add_assoc] at ih
   exact ih
  ·refine Eq.trans (if_neg hE) ?_
   rw [if_pos hE]
theorem ref_Run (s : Sea) (v : Veh) (x : S31) (t : Int) (l : List S33) (K : Nat) (hl : s.currents.length ≤ 100000) (hk : s.currents.length + 3 ≤ K) (hk' : 2500 ≤ K) :
  isobathref03_Run.f K s.nx s.ny s.cell s.slot s.slots s.layers s.most s.shores s.currents v.speed v.dive v.use.f0 v.use.f1 v.drift.f0 v.drift.f1 v.reserve x.f0.f0 x.f0.f1 x.f1.f0 x.f1.f1 t l = some (RunX s v x t l) := by
 unfold isobathref03_Run.f RunX
 have hub : beginE s v x t = if tripE s v ≠ 0 then tripE s v else placeE x t := rfl
 rw [ref_both s v K hl hk, Option.bind_some]
 by_cases h1 : tripE s v = 0
 ·rw [if_pos h1, ref_place, Option.bind_some]
  rw [if_neg (fun q => q h1)] at hub
  rw [hub]
  by_cases h2 : placeE x t = 0
  ·rw [if_pos h2, if_neg (fun q => q h2), ref_crs _ _ K (by omega), Option.bind_some]
   by_cases h3 : crsE l s.layers = 0
   ·rw [if_pos h3, if_neg (fun q => q h3)]
    obtain ⟨hS, hV⟩ := tripE_ok h1
    obtain ⟨hx, ht0, ht1⟩ := place_ok h2
    obtain ⟨hl64, hall⟩ := crsE_ok h3
    unfold isobathref03_run.f
    have := ref_run_loop s v t l hS hV ⟨ht0, ht1⟩ hl64 hall l.length 0 K x [] (by omega) (by omega) hx rfl
    rw [show ((0 : Nat) : Int) = 0 from rfl, Int.zero_mul, Int.add_zero, List.drop_zero] at this
    rw [this, Option.bind_some]
   ·rw [if_neg h3, if_pos h3]; try rfl
  ·rw [if_neg h2, if_pos h2]; try rfl
 ·rw [if_neg h1]
  rw [if_pos h1] at hub
  rw [hub, if_pos h1]; try rfl
theorem same_loop (l : List S31) (hl : l.length ≤ 100000) : ∀ (m i K : Nat), i + m = l.length → m + 1 ≤ K → isobathlaw03_sameBoxes.l0 K l l (i : Int) = some true
 | 0, i, K + 1, h, hk => by rw [isobathlaw03_sameBoxes.l0, if_neg (by omega)]
 | m + 1, i, K + 1, h, hk => by
  rw [isobathlaw03_sameBoxes.l0, if_pos (by omega), if_pos (by omega), if_pos (by omega), if_neg (by simp), w64_id (by omega)]
  exact same_loop l hl m (i + 1) K (by omega) (by omega)
theorem same_self (l : List S31) (K : Nat) (hl : l.length ≤ 100000) (hk : l.length + 1 ≤ K) : isobathlaw03_sameBoxes.f K l l = some true := by
 unfold isobathlaw03_sameBoxes.f
 rw [if_pos rfl]
 exact same_loop l hl l.length 0 K (by omega) (by omega)
theorem ran_len (s : Sea) (v : Veh) : ∀ (l : List S33) (x : S31) (t n : Int) (out : List S31), (ranI s v l x t n out).1.length ≤ out.length + l.length
 | [], x, t, n, out => by unfold ranI; simp
 | c :: l, x, t, n, out => by
  unfold ranI
  split
  ·simp
  ·have := ran_len s v l (diveV s v x t c.f0 c.f1) (t + v.dive) (n + 1) (out ++ [diveV s v x t c.f0 c.f1])
   rw [List.length_append] at this
   simp only [List.length_cons, List.length_nil] at *
   omega
end Go.Proofs.Ytmhaiihjfgfaoaa.Gl
end
section
/- The document's dives and runs are the program's: the pure statement about what the program computes. -/
namespace Go.Proofs.Ytmhaiihjfgfaoaa.Pure
open Go.RowKit Go.Proofs.YtmhaiihjfgfaoaaW.PrintWords Go.Proofs.YtmhaiihjfgfaoaaW.PrintLast Go.Proofs.Ytmhaiihjfgfaoaa.Pr Go.Proofs.Ytmhaiihjfgfaoaa.Good Go.Proofs.Ytmhaiihjfgfaoaa.Gl
namespace Dives
theorem works {k : Nat} (h : 60 ≤ k) : isobathlaw03_Works.f k = some true := at_rounds isobathlaw03_Works.mono h isobathlaw03_Works.true_
theorem out_ (s : Sea) (v : Veh) (x : S31) (t hd layer : Int) (l : List S33) (K : Nat) (hk : 3100 ≤ K) (b : Bool) (h1 : s.currents.length ≤ 3000) (hl : l.length ≤ 70 ∨ b = true) :
  isobathlaw03_GliderDives.j0 (K + 1) t l b s.nx s.ny s.cell s.slot s.slots s.layers s.most s.shores s.currents v.speed v.dive v.use.f0 v.use.f1 v.drift.f0 v.drift.f1 v.reserve x.f0.f0 x.f0.f1 x.f1.f0 x.f1.f1 hd layer = some true := by
 rw [isobathlaw03_GliderDives.j0]
 cases b with
 | true => rw [if_pos rfl, works (by omega)]; rfl
 | false =>
  rw [if_neg (by decide)]
  unfold glider_Dive.f glider_Run.f
  rw [Option.bind_some]
  refine Eq.trans (congrArg (fun o => Option.bind o _) (ref_Dive s v x t hd layer K (by omega) (by omega) (by omega))) ?_
  rw [Option.bind_some, Option.bind_some]
  refine Eq.trans (congrArg (fun o => Option.bind o _) (ref_Run s v x t l K (by omega) (by omega) (by omega))) ?_
  rw [Option.bind_some]
  refine Eq.trans (if_pos (by first | (simp; done) | (simp only [Bool.and_eq_true, beq_iff_eq]; exact ⟨⟨rfl, rfl⟩, rfl, rfl⟩))) ?_
  refine Eq.trans (if_pos rfl) ?_
  have hlen : (RunX s v x t l).1.length ≤ 70 := by
   unfold RunX
   rcases hl with hl | hl
   ·split
    ·simp
    ·split
     ·simp
     ·have := ran_len s v l x t 0 []
      simp only [List.length_nil] at this
      omega
   ·cases hl
  refine Eq.trans (congrArg (fun o => Option.bind o _) (same_self (RunX s v x t l).1 K (by omega) (by omega))) ?_
  rw [Option.bind_some, if_pos rfl]
  refine Eq.trans (if_pos rfl) ?_
  refine Eq.trans (if_pos rfl) ?_
  rw [works (by omega)]; rfl
end Dives
open Dives in
theorem GliderDives : ∀ (x0 : S25) (x1 : S29) (x2 : S31) (x3 : Int) (x4 : S33) (x5 : (List S33)), W25 x0 → W29 x1 → W31 x2 → (Lit.int .i64 x3).wf = true → W33 x4 → ((∀ y ∈ x5, W33 y) ∧ x5.length * Try.prog.bytesOf 33 ≤ reachBytes) → ∃ k, isobathlaw03_GliderDives.f k (x0.f0) (x0.f1) (x0.f2) (x0.f3) (x0.f4) (x0.f5) (x0.f6) (x0.f7) (x0.f8) (x1.f0) (x1.f1) (x1.f2.f0) (x1.f2.f1) (x1.f3.f0) (x1.f3.f1) (x1.f4) (x2.f0.f0) (x2.f0.f1) (x2.f1.f0) (x2.f1.f1) x3 (x4.f0) (x4.f1) x5 = some true := by
 intro x0 x1 x2 x3 x4 x5 g0 g1 g2 g3 g4 g5
 let s : Sea := ⟨x0.f0, x0.f1, x0.f2, x0.f3, x0.f4, x0.f5, x0.f6, x0.f7, x0.f8⟩
 let v : Veh := ⟨x1.f0, x1.f1, ⟨x1.f2.f0, x1.f2.f1⟩, ⟨x1.f3.f0, x1.f3.f1⟩, x1.f4⟩
 refine ⟨3101, ?_⟩
 unfold isobathlaw03_GliderDives.f
 refine Eq.trans (congrArg (fun o => Option.bind o _) (ref_great s)) ?_
 rw [Option.bind_some]
 have hj : ∀ b, s.currents.length ≤ 3000 → (x5.length ≤ 70 ∨ b = true) → isobathlaw03_GliderDives.j0 3101 x3 x5 b x0.f0 x0.f1 x0.f2 x0.f3 x0.f4 x0.f5 x0.f6 x0.f7 x0.f8 x1.f0 x1.f1 x1.f2.f0 x1.f2.f1 x1.f3.f0 x1.f3.f1 x1.f4 x2.f0.f0 x2.f0.f1 x2.f1.f0 x2.f1.f1 x4.f0 x4.f1 = some true := fun b h1 hl => out_ s v x2 x3 x4.f0 x4.f1 x5 3100 (Nat.le_refl _) b h1 hl
 have ht : isobathlaw03_GliderDives.j0 3101 x3 x5 true x0.f0 x0.f1 x0.f2 x0.f3 x0.f4 x0.f5 x0.f6 x0.f7 x0.f8 x1.f0 x1.f1 x1.f2.f0 x1.f2.f1 x1.f3.f0 x1.f3.f1 x1.f4 x2.f0.f0 x2.f0.f1 x2.f1.f0 x2.f1.f1 x4.f0 x4.f1 = some true := by
  rw [isobathlaw03_GliderDives.j0, if_pos rfl, works (by omega)]; rfl
 by_cases h1 : (s.shores.length : Int) > 200
 ·rw [decide_eq_true h1, Bool.true_or, if_pos rfl, ht]
 by_cases h2 : (s.currents.length : Int) > 3000
 ·rw [decide_eq_true h2, Bool.or_true, if_pos rfl, ht]
 rw [decide_eq_false h1, decide_eq_false h2, if_neg (by decide)]
 have hlast : isobathlaw03_GliderDives.j0 3101 x3 x5 (decide ((x5.length : Int) > 70)) x0.f0 x0.f1 x0.f2 x0.f3 x0.f4 x0.f5 x0.f6 x0.f7 x0.f8 x1.f0 x1.f1 x1.f2.f0 x1.f2.f1 x1.f3.f0 x1.f3.f1 x1.f4 x2.f0.f0 x2.f0.f1 x2.f1.f0 x2.f1.f1 x4.f0 x4.f1 = some true := by
  by_cases h3 : (x5.length : Int) > 70
  ·rw [decide_eq_true h3, ht]
  ·exact hj _ (by omega) (Or.inl (by omega))
 rw [ht, hlast]
 split
 ·split <;> rfl
 ·rfl
end Go.Proofs.Ytmhaiihjfgfaoaa.Pure
end
