/- Part 12 of the proof of GliderKnown: what the functions compute. No condition. -/
import Derived.Test.YtmhaiihjfgfaoaaGkGliderKnown3
import Derived.Test.YtmhaiihjfgfaoaaGkGliderKnown6
import Derived.Test.YtmhaiihjfgfaoaaGkGliderKnown11
import Derived.Test.YtmhaiihjfgfaoaaGkGliderKnown4
set_option linter.unusedVariables false
set_option linter.unusedSimpArgs false
section
/- A trip, as the program makes it, or the error. -/
namespace Go.Proofs.Ytmhaiihjfgfaoaa.Gl
open Go.RowKit Go.Shelf Go.Proofs.YtmhaiihjfgfaoaaW.PrintWords Go.Proofs.YtmhaiihjfgfaoaaW.PrintLast Go.Proofs.YtmhaiihjfgfaoaaW.PrintMore Go.Proofs.Ytmhaiihjfgfaoaa.Pr Go.Proofs.YtmhaiihjfgfaoaaW.Round
set_option linter.unusedVariables false
set_option linter.unusedSimpArgs false
attribute [local go_sem] max2_int min2_int max_two min_two max_four
theorem wrap_id' {n : Int} (h0 : -9223372036854775808 ≤ n) (h1 : n ≤ 9223372036854775807) : wrap64 n = n := by unfold wrap64; omega
/-- Is a vehicle valid? -/
def vehB (v : Veh) : Bool := btwB v.speed 0 5000 && btwB v.dive 1 131072 && bndB v.use.f0 v.use.f1 0 1073741824 && bndB v.drift.f0 v.drift.f1 0 1073741824 && btwB v.reserve 0 1073741824
def vehE (v : Veh) : Int := if vehB v then 0 else 2
theorem btw_some (x lo hi : Int) : glider_between.f x lo hi = some (btwB x lo hi) := by
 unfold glider_between.f btwB
 by_cases h : x ≥ lo
 ·rw [if_pos h, show decide (lo ≤ x) = true from decide_eq_true h]; simp
 ·rw [if_neg h, show decide (lo ≤ x) = false from decide_eq_false h]; simp
theorem veh_some (v : Veh) : glider_CheckVehicle.f 4 v.speed v.dive v.use.f0 v.use.f1 v.drift.f0 v.drift.f1 v.reserve = some (vehE v) := by
 unfold glider_CheckVehicle.f vehE vehB
 simp only [btw_some, bnd_some 2, Option.bind_some]
 cases btwB v.speed 0 5000 <;> cases btwB v.dive 1 131072 <;> cases bndB v.use.f0 v.use.f1 0 1073741824 <;> cases bndB v.drift.f0 v.drift.f1 0 1073741824 <;> cases btwB v.reserve 0 1073741824 <;> rfl
theorem veh_any (v : Veh) (w : World) : Calls Try.prog 27 #[.agg #[.int .i64 v.speed, .int .i64 v.dive, .int .i64 v.use.f0, .int .i64 v.use.f1, .int .i64 v.drift.f0, .int .i64 v.drift.f1, .int .i64 v.reserve]] w (RetB (.int .i64 (vehE v)) w) := glider_CheckVehicle.calls 4 _ _ _ _ _ _ _ _ w (veh_some v)
/-- Is a box valid? -/
def boxB (x : S31) : Bool := (okS x.f0.f0 x.f0.f1 && okS x.f1.f0 x.f1.f1) && (btwB x.f0.f0 (-268435456) 268435456 && btwB x.f0.f1 (-268435456) 268435456 && btwB x.f1.f0 (-268435456) 268435456 && btwB x.f1.f1 (-268435456) 268435456)
def boxE (x : S31) : Int := if boxB x then 0 else 2
theorem check_two (k : Nat) (a b : S27) : bound_check.f (k + 3) [a, b] = some (if okS a.f0 a.f1 && okS b.f0 b.f1 then 0 else 2) := by
 unfold bound_check.f
 have e1 : (([a, b] : List S27).length : Int) = 2 := rfl
 have r0 : rd_T27 [a, b] 0 = a := rfl
 have r1 : rd_T27 [a, b] 1 = b := rfl
 have w1 : wrap64 (0 + 1) = 1 := wrap_id' (by decide) (by decide)
 have w2 : wrap64 (1 + 1) = 2 := wrap_id' (by decide) (by decide)
 have step : ∀ (c : S27) (r : Option Int), (if c.f0 > c.f1 then some 2 else if c.f0 < -1073741824 then some 2 else if c.f1 > 1073741824 then some 2 else r) = if okS c.f0 c.f1 then r else some 2 := by
  intro c r
  cases h : okS c.f0 c.f1 with
  | true =>
   have := okS_iff.1 h
   rw [if_neg (by omega), if_neg (by omega), if_neg (by omega), if_pos rfl]
  | false =>
   have hn : ¬ (c.f0 ≤ c.f1 ∧ -1073741824 ≤ c.f0 ∧ c.f1 ≤ 1073741824) := fun h2 => by rw [okS_iff.2 h2] at h; cases h
   rw [show (if false = true then r else some 2) = some 2 from rfl]
   by_cases h1 : c.f0 > c.f1
   ·rw [if_pos h1]
   ·rw [if_neg h1]
    by_cases h2 : c.f0 < -1073741824
    ·rw [if_pos h2]
    ·rw [if_neg h2, if_pos (by omega)]
 simp only [bound_check.l0, e1]
 rw [if_pos (by decide), if_pos (by decide), if_pos (by decide), r0, step]
 cases ha : okS a.f0 a.f1 with
 | false => rfl
 | true =>
  rw [if_pos rfl, w1, if_pos (by decide), if_pos (by decide), if_pos (by decide), r1, step]
  cases hb : okS b.f0 b.f1 with
  | false => rfl
  | true =>
   rw [if_pos rfl, w2, if_neg (by decide)]
   rfl
theorem box_some (x : S31) : bound_CheckBox.f 4 x.f0.f0 x.f0.f1 x.f1.f0 x.f1.f1 = some (boxE x) := by
 unfold bound_CheckBox.f boxE boxB
 rw [check_two 1, Option.bind_some]
 cases h : (okS x.f0.f0 x.f0.f1 && okS x.f1.f0 x.f1.f1) with
 | false => rfl
 | true =>
  rw [Bool.and_eq_true] at h
  have h1 := okS_iff.1 h.1
  have h2 := okS_iff.1 h.2
  have am : ∀ a : Int, -1073741824 ≤ a → a ≤ 1073741824 → bound_amount.f a = some (max a (-a)) := fun a h0 h1 => by
   unfold bound_amount.f
   rw [mx_max', wrap_id' (by omega) (by omega)]
  rw [show (if (true = true) then (0 : Int) else 2) = 0 from rfl, if_pos rfl]
  simp only [am _ h1.2.1 (by omega), am _ (show -1073741824 ≤ x.f0.f1 by omega) h1.2.2, am _ h2.2.1 (by omega), am _ (show -1073741824 ≤ x.f1.f1 by omega) h2.2.2, Option.bind_some, mx_max']
  by_cases hb : max (max (max (max x.f0.f0 (-x.f0.f0)) (max x.f0.f1 (-x.f0.f1))) (max x.f1.f0 (-x.f1.f0))) (max x.f1.f1 (-x.f1.f1)) > 268435456
  ·rw [if_pos hb, if_neg]
   rw [Bool.true_and, Bool.and_eq_true, Bool.and_eq_true, Bool.and_eq_true, btwB_iff, btwB_iff, btwB_iff, btwB_iff]
   omega
  ·rw [if_neg hb, if_pos]
   rw [Bool.true_and, Bool.and_eq_true, Bool.and_eq_true, Bool.and_eq_true, btwB_iff, btwB_iff, btwB_iff, btwB_iff]
   omega
theorem box_any (x : S31) (w : World) : Calls Try.prog 67 #[.agg #[.int .i64 x.f0.f0, .int .i64 x.f0.f1, .int .i64 x.f1.f0, .int .i64 x.f1.f1]] w (RetB (.int .i64 (boxE x)) w) := bound_CheckBox.calls 4 _ _ _ _ _ w (box_some x)
def placeE (x : S31) (t : Int) : Int := if boxE x ≠ 0 then boxE x else if btwB t 0 1073741824 then 0 else 3
theorem place_some (x : S31) (t : Int) : glider_checkPlace.f 4 x.f0.f0 x.f0.f1 x.f1.f0 x.f1.f1 t = some (placeE x t) := by
 unfold glider_checkPlace.f placeE
 rw [box_some, Option.bind_some, btw_some, Option.bind_some]
 by_cases h : boxE x = 0
 ·rw [if_pos h, if_neg (show ¬ (boxE x ≠ 0) from fun h2 => h2 h)]
  cases btwB t 0 1073741824 <;> rfl
 ·rw [if_neg h, if_pos h]
theorem place_any (x : S31) (t : Int) (w : World) : Calls Try.prog 114 #[.agg #[.int .i64 x.f0.f0, .int .i64 x.f0.f1, .int .i64 x.f1.f0, .int .i64 x.f1.f1], .int .i64 t] w (RetB (.int .i64 (placeE x t)) w) := glider_checkPlace.calls 4 _ _ _ _ _ _ w (place_some x t)
/-- Is a course valid, for so many layers? -/
def crsB (layers : Int) (c : S33) : Bool := btwB c.f0 0 8 && decide (0 ≤ c.f1) && (decide (layers < 0) || decide (c.f1 < layers))
def crsE (l : List S33) (layers : Int) : Int := if l.length > 64 then 6 else if l.all (crsB layers) then 0 else 2
theorem crs_loop (layers : Int) (l : List S33) (hl : l.length ≤ 64) : ∀ (m i k : Nat), i + m = l.length → m < k → glider_checkCourses.l0 k layers l (l.length : Int) (i : Int) = some (if (l.drop i).all (crsB layers) then 0 else 2) := by
 intro m
 induction m with
 | zero =>
  intro i k h hk
  obtain ⟨k, rfl⟩ : ∃ q, k = q + 1 := ⟨k - 1, by omega⟩
  rw [glider_checkCourses.l0, if_neg (by omega), List.drop_of_length_le (by omega)]
  rfl
 | succ m ih =>
  intro i k h hk
  obtain ⟨k, rfl⟩ : ∃ q, k = q + 1 := ⟨k - 1, by omega⟩
  have hi : i < l.length := by omega
  have hr : rd_T33 l (i : Int) = l[i] := by
   unfold rd_T33
   rw [List.getD_eq_getElem?_getD, Int.toNat_natCast, List.getElem?_eq_getElem hi]
   rfl
  have hih := ih (i + 1) k (by omega) (by omega)
  rw [glider_checkCourses.l0, if_pos (by omega), if_pos (by omega), if_pos (by omega), hr, wrap_id' (by omega) (by omega), show ((i : Int) + 1) = ((i + 1 : Nat) : Int) by omega, hih, List.drop_eq_getElem_cons hi, List.all_cons]
  cases hb : crsB layers l[i] with
  | true =>
   have hb2 : crsB layers l[i] = true := hb
   unfold crsB at hb2
   simp only [Bool.and_eq_true, Bool.or_eq_true, decide_eq_true_eq, btwB_iff] at hb2
   rw [Bool.true_and, if_neg (by omega), if_neg (by omega), if_neg (by omega)]
   by_cases h0 : layers ≥ 0
   ·rw [if_pos h0, if_neg (by omega)]
   ·rw [if_neg h0]
  | false =>
   have hn : ¬ ((0 ≤ l[i].f0 ∧ l[i].f0 ≤ 8) ∧ 0 ≤ l[i].f1 ∧ (layers < 0 ∨ l[i].f1 < layers)) := fun h2 => by
    have : crsB layers l[i] = true := by
     unfold crsB
     simp only [Bool.and_eq_true, Bool.or_eq_true, decide_eq_true_eq, btwB_iff]
     exact ⟨⟨h2.1, h2.2.1⟩, h2.2.2⟩
    rw [this] at hb
    cases hb
   rw [Bool.false_and, if_neg (show ¬ (false = true) by decide)]
   by_cases a1 : l[i].f0 < 0
   ·rw [if_pos a1]
   ·rw [if_neg a1]
    by_cases a2 : l[i].f0 ≥ 9
    ·rw [if_pos a2]
    ·rw [if_neg a2]
     by_cases a3 : l[i].f1 < 0
     ·rw [if_pos a3]
     ·rw [if_neg a3, if_pos (by omega), if_pos (by omega)]
theorem crs_some (l : List S33) (layers : Int) : glider_checkCourses.f 66 l layers = some (crsE l layers) := by
 unfold glider_checkCourses.f crsE
 by_cases h : l.length > 64
 ·rw [if_pos (by omega), if_pos h]
 ·rw [if_neg (by omega), if_neg h]
  have := crs_loop layers l (by omega) l.length 0 66 (by omega) (by omega)
  rw [List.drop_zero] at this
  exact this
theorem crs_any (A : Option Addr) (c : Nat) (l : List S33) (layers : Int) (w : World) (hC : Kd.C k33 w A l.length l) (hc : l.length ≤ c) : Calls Try.prog 65 #[.slice A l.length c, .int .i64 layers] w (RetB (.int .i64 (crsE l layers)) w) := glider_checkCourses.calls 66 _ _ _ _ _ w hC hc (crs_some l layers)
theorem sea_two (s : Sea) : (seaE s = 0 ∧ seaB s = true) ∨ seaE s = 2 := by
 unfold seaE
 cases seaB s
 ·exact .inr rfl
 ·exact .inl ⟨rfl, rfl⟩
theorem veh_two (v : Veh) : (vehE v = 0 ∧ vehB v = true) ∨ vehE v = 2 := by
 unfold vehE
 cases vehB v
 ·exact .inr rfl
 ·exact .inl ⟨rfl, rfl⟩
theorem bndB_iff {lo hi a b : Int} : bndB lo hi a b = true ↔ (lo ≤ hi ∧ -1073741824 ≤ lo ∧ hi ≤ 1073741824) ∧ a ≤ lo ∧ hi ≤ b := by unfold bndB; simp only [Bool.and_eq_true, decide_eq_true_eq, okS_iff]; exact and_assoc
theorem seaB_ok {s : Sea} (h : seaB s = true) : SeaV s := by
 unfold seaB at h
 simp only [Bool.and_eq_true, decide_eq_true_eq, btwB_iff, Bool.not_eq_true'] at h
 obtain ⟨⟨⟨⟨⟨⟨⟨⟨⟨h0, h1⟩, h2⟩, h3⟩, h4⟩, h5⟩, h6⟩, h7⟩, h8⟩, h9⟩ := h
 refine ⟨⟨h0, h1, h2, h3, h4, h5, h6⟩, h7, h8, fun c hc => ?_⟩
 have := List.any_eq_false.1 h9 c hc
 unfold badC at this
 simp only [Bool.not_eq_true, Bool.or_eq_false_iff, Bool.not_eq_false', bndB_iff] at this
 omega
theorem vehB_ok {v : Veh} (h : vehB v = true) : VehN v := by
 unfold vehB at h
 simp only [Bool.and_eq_true, btwB_iff] at h
 exact ⟨h.1.1.1.1, h.1.1.1.2⟩
theorem boxB_ok {x : S31} (h : boxE x = 0) : BoxOK x := by
 unfold boxE at h
 cases hb : boxB x with
 | false => rw [hb] at h; cases h
 | true =>
  unfold boxB at hb
  simp only [Bool.and_eq_true, btwB_iff, okS_iff] at hb
  unfold BoxOK SmallB
  omega
def tripE (s : Sea) (v : Veh) : Int := if seaE s ≠ 0 then seaE s else vehE v
theorem tripE_ok {s : Sea} {v : Veh} (h : tripE s v = 0) : SeaV s ∧ VehN v := by
 unfold tripE at h
 rcases sea_two s with ⟨h1, h2⟩ | h1
 ·rw [if_neg (by omega)] at h
  rcases veh_two v with ⟨h3, h4⟩ | h3
  ·exact ⟨seaB_ok h2, vehB_ok h4⟩
  ·omega
 ·rw [if_pos (by omega)] at h
  omega
def TripPost (s : Sea) (v : Veh) (E : Int) (w : World) (e : Ending) (w' : World) : Prop :=
 ∃ ptr, e = .returned (.tuple #[.pointer ptr, .int .i64 E]) ∧ Below w.heap.size w w' ∧ ((tripE s v = 0 ∧ ∃ g, ptr = some ⟨g, 0, none⟩ ∧ w.heap.size ≤ g ∧ TripAt w' g s v) ∨ (tripE s v ≠ 0 ∧ ptr = none))
set_option maxRecDepth 100000 in
set_option maxHeartbeats 4000000 in
theorem newTrip_any (s : Sea) (v : Veh) (A7 A8 : Option Addr) (c7 c8 : Nat) (w : World) (h7 : s.shores.length ≤ c7) (hC7 : Kd.C Kd.bool w A7 s.shores.length s.shores) (h8 : s.currents.length ≤ c8) (hC8 : Kd.C k40 w A8 s.currents.length s.currents) :
  Calls Try.prog 113 #[.agg #[.int .i64 s.nx, .int .i64 s.ny, .int .i64 s.cell, .int .i64 s.slot, .int .i64 s.slots, .int .i64 s.layers, .int .i64 s.most, .slice A7 s.shores.length c7, .slice A8 s.currents.length c8], .agg #[.int .i64 v.speed, .int .i64 v.dive, .int .i64 v.use.f0, .int .i64 v.use.f1, .int .i64 v.drift.f0, .int .i64 v.drift.f1, .int .i64 v.reserve]] w (TripPost s v (tripE s v) w) := by
 have hu25 := Try.underlying25
 have hu29 := Try.underlying29
 have hu110 := Try.underlying110
 have HE : Hid (tripE s v = if seaE s ≠ 0 then seaE s else vehE v) := Lib.hid rfl
 go_enter Try.func113, Try.ntmps113
 go_wp2_with fail
 have m2 : Blk ((w.alloc (.cells #[.int .i64 s.nx, .int .i64 s.ny, .int .i64 s.cell, .int .i64 s.slot, .int .i64 s.slots, .int .i64 s.layers, .int .i64 s.most, .slice A7 s.shores.length c7, .slice A8 s.currents.length c8] 25)).alloc (.cells #[.int .i64 v.speed, .int .i64 v.dive, .int .i64 v.use.f0, .int .i64 v.use.f1, .int .i64 v.drift.f0, .int .i64 v.drift.f1, .int .i64 v.reserve] 29)) (w.heap.size) #[.int .i64 s.nx, .int .i64 s.ny, .int .i64 s.cell, .int .i64 s.slot, .int .i64 s.slots, .int .i64 s.layers, .int .i64 s.most, .slice A7 s.shores.length c7, .slice A8 s.currents.length c8] 25 := (blk_alloc zq13 _)
 have m3 : Blk ((w.alloc (.cells #[.int .i64 s.nx, .int .i64 s.ny, .int .i64 s.cell, .int .i64 s.slot, .int .i64 s.slots, .int .i64 s.layers, .int .i64 s.most, .slice A7 s.shores.length c7, .slice A8 s.currents.length c8] 25)).alloc (.cells #[.int .i64 v.speed, .int .i64 v.dive, .int .i64 v.use.f0, .int .i64 v.use.f1, .int .i64 v.drift.f0, .int .i64 v.drift.f1, .int .i64 v.reserve] 29)) (w.heap.size + 1) #[.int .i64 v.speed, .int .i64 v.dive, .int .i64 v.use.f0, .int .i64 v.use.f1, .int .i64 v.drift.f0, .int .i64 v.drift.f1, .int .i64 v.reserve] 29 := zq35
 have mB : Below w.heap.size w ((w.alloc (.cells #[.int .i64 s.nx, .int .i64 s.ny, .int .i64 s.cell, .int .i64 s.slot, .int .i64 s.slots, .int .i64 s.layers, .int .i64 s.most, .slice A7 s.shores.length c7, .slice A8 s.currents.length c8] 25)).alloc (.cells #[.int .i64 v.speed, .int .i64 v.dive, .int .i64 v.use.f0, .int .i64 v.use.f1, .int .i64 v.drift.f0, .int .i64 v.drift.f1, .int .i64 v.reserve] 29)) := (below_alloc (below_alloc (Below.refl w.heap.size w) _) _)
 have hsz_ : w.heap.size ≤ w.heap.size := Nat.le_refl _
 generalize hW_ : ((w.alloc (.cells #[.int .i64 s.nx, .int .i64 s.ny, .int .i64 s.cell, .int .i64 s.slot, .int .i64 s.slots, .int .i64 s.layers, .int .i64 s.most, .slice A7 s.shores.length c7, .slice A8 s.currents.length c8] 25)).alloc (.cells #[.int .i64 v.speed, .int .i64 v.dive, .int .i64 v.use.f0, .int .i64 v.use.f1, .int .i64 v.drift.f0, .int .i64 v.drift.f1, .int .i64 v.reserve] 29)) = W1 at m2 m3 mB ⊢
 clear hW_
 generalize hg2 : w.heap.size = g2 at m2 m3 ⊢
 have hG2 : w.heap.size ≤ g2 := by omega
 generalize hg3 : g2 + 1 = g3 at m3 ⊢
 have hn_2_3 : g2 ≠ g3 := by omega
 have hn_3_2 : g3 ≠ g2 := hn_2_3.symm
 have hG3 : w.heap.size ≤ g3 := by omega
 clear hsz_
 try clear hg3
 try clear hg2
 have hs_W1 : w.heap.size ≤ W1.heap.size := mB.size
 have hcon := sea_any s A7 A8 c7 c8 W1 h7 (Kd.C_below hC7 mB) h8 (Kd.C_below hC8 mB)
 (with_reducible refine hcon.mono ?_)
 clear hcon
 rintro e W2 ⟨rfl, hb⟩
 replace m2 := blk_below m2 hb
 replace m3 := blk_below m3 hb
 replace mB := below_step mB hb
 clear hb
 have hs_W2 : w.heap.size ≤ W2.heap.size := mB.size
 rcases sea_two s with ⟨h1, _⟩ | h1
 case inr =>
  have HZ : Hid (tripE s v = 2) := Lib.hid (HE.out.trans (by rw [h1]; rfl))
  rw [h1]
  clear h1 HE
  go_wp2
  go_ret2
  exact ⟨none, zq14, mB, .inr ⟨by rw [HZ.out]; decide, rfl⟩⟩
 case inl =>
  have HE2 := Lib.hid (HE.out.trans (if_neg (by omega)))
  clear HE
  rw [h1]
  clear h1
  obtain ⟨c3_0, c3_1, c3_2, c3_3, c3_4, c3_5, c3_6⟩ := zcs7 m3
  go_wp2_with fail
  clear c3_0 c3_1 c3_2 c3_3 c3_4 c3_5 c3_6
  have hcon := veh_any v W2
  (with_reducible refine hcon.mono ?_)
  clear hcon
  rintro e W3 ⟨rfl, hb⟩
  replace m2 := blk_below m2 hb
  replace m3 := blk_below m3 hb
  replace mB := below_step mB hb
  clear hb
  have hs_W3 : w.heap.size ≤ W3.heap.size := mB.size
  rcases veh_two v with ⟨h1, _⟩ | h1
  case inr =>
   have HE := HE2
   have HZ : Hid (tripE s v = 2) := Lib.hid (HE2.out.trans h1)
   rw [h1]
   clear h1 HE
   go_wp2
   go_ret2
   exact ⟨none, zq14, mB, .inr ⟨by rw [HZ.out]; decide, rfl⟩⟩
  case inl =>
   have HZ := Lib.hid (HE2.out.trans h1)
   rw [h1]
   clear h1 HE2
   obtain ⟨c2_0, c2_1, c2_2, c2_3, c2_4, c2_5, c2_6, c2_7, c2_8⟩ := zcs9 m2
   obtain ⟨c3_0, c3_1, c3_2, c3_3, c3_4, c3_5, c3_6⟩ := zcs7 m3
   go_wp2
   go_ret2
   exact ⟨_, zq14, below_alloc mB _, .inl ⟨HZ.out, W3.heap.size, rfl, mB.size, A7, c7, A8, c8, blk_new W3 (.cells #[.int .i64 s.nx, .int .i64 s.ny, .int .i64 s.cell, .int .i64 s.slot, .int .i64 s.slots, .int .i64 s.layers, .int .i64 s.most, .slice A7 s.shores.length c7, .slice A8 s.currents.length c8, .int .i64 v.speed, .int .i64 v.dive, .int .i64 v.use.f0, .int .i64 v.use.f1, .int .i64 v.drift.f0, .int .i64 v.drift.f1, .int .i64 v.reserve] 110), h7, Kd.C_below hC7 (below_alloc mB _), h8, Kd.C_below hC8 (below_alloc mB _)⟩⟩
def beginE (s : Sea) (v : Veh) (x : S31) (t : Int) : Int := if tripE s v ≠ 0 then tripE s v else placeE x t
set_option maxRecDepth 100000 in
set_option maxHeartbeats 4000000 in
theorem begin_any (s : Sea) (v : Veh) (x : S31) (t : Int) (A7 A8 : Option Addr) (c7 c8 : Nat) (w : World) (h7 : s.shores.length ≤ c7) (hC7 : Kd.C Kd.bool w A7 s.shores.length s.shores) (h8 : s.currents.length ≤ c8) (hC8 : Kd.C k40 w A8 s.currents.length s.currents) :
  Calls Try.prog 64 #[.agg #[.int .i64 s.nx, .int .i64 s.ny, .int .i64 s.cell, .int .i64 s.slot, .int .i64 s.slots, .int .i64 s.layers, .int .i64 s.most, .slice A7 s.shores.length c7, .slice A8 s.currents.length c8], .agg #[.int .i64 v.speed, .int .i64 v.dive, .int .i64 v.use.f0, .int .i64 v.use.f1, .int .i64 v.drift.f0, .int .i64 v.drift.f1, .int .i64 v.reserve], .agg #[.int .i64 x.f0.f0, .int .i64 x.f0.f1, .int .i64 x.f1.f0, .int .i64 x.f1.f1], .int .i64 t] w (TripPost s v (beginE s v x t) w) := by
 have hu25 := Try.underlying25
 have hu29 := Try.underlying29
 have hu31 := Try.underlying31
 have HE : Hid (beginE s v x t = if tripE s v ≠ 0 then tripE s v else placeE x t) := Lib.hid rfl
 go_enter Try.func64, Try.ntmps64
 go_wp2_with fail
 have m4 : Blk (((w.alloc (.cells #[.int .i64 s.nx, .int .i64 s.ny, .int .i64 s.cell, .int .i64 s.slot, .int .i64 s.slots, .int .i64 s.layers, .int .i64 s.most, .slice A7 s.shores.length c7, .slice A8 s.currents.length c8] 25)).alloc (.cells #[.int .i64 v.speed, .int .i64 v.dive, .int .i64 v.use.f0, .int .i64 v.use.f1, .int .i64 v.drift.f0, .int .i64 v.drift.f1, .int .i64 v.reserve] 29)).alloc (.cells #[.int .i64 x.f0.f0, .int .i64 x.f0.f1, .int .i64 x.f1.f0, .int .i64 x.f1.f1] 31)) (w.heap.size) #[.int .i64 s.nx, .int .i64 s.ny, .int .i64 s.cell, .int .i64 s.slot, .int .i64 s.slots, .int .i64 s.layers, .int .i64 s.most, .slice A7 s.shores.length c7, .slice A8 s.currents.length c8] 25 := (blk_alloc (blk_alloc zq13 _) _)
 have m5 : Blk (((w.alloc (.cells #[.int .i64 s.nx, .int .i64 s.ny, .int .i64 s.cell, .int .i64 s.slot, .int .i64 s.slots, .int .i64 s.layers, .int .i64 s.most, .slice A7 s.shores.length c7, .slice A8 s.currents.length c8] 25)).alloc (.cells #[.int .i64 v.speed, .int .i64 v.dive, .int .i64 v.use.f0, .int .i64 v.use.f1, .int .i64 v.drift.f0, .int .i64 v.drift.f1, .int .i64 v.reserve] 29)).alloc (.cells #[.int .i64 x.f0.f0, .int .i64 x.f0.f1, .int .i64 x.f1.f0, .int .i64 x.f1.f1] 31)) (w.heap.size + 1) #[.int .i64 v.speed, .int .i64 v.dive, .int .i64 v.use.f0, .int .i64 v.use.f1, .int .i64 v.drift.f0, .int .i64 v.drift.f1, .int .i64 v.reserve] 29 := (blk_alloc zq35 _)
 have m6 : Blk (((w.alloc (.cells #[.int .i64 s.nx, .int .i64 s.ny, .int .i64 s.cell, .int .i64 s.slot, .int .i64 s.slots, .int .i64 s.layers, .int .i64 s.most, .slice A7 s.shores.length c7, .slice A8 s.currents.length c8] 25)).alloc (.cells #[.int .i64 v.speed, .int .i64 v.dive, .int .i64 v.use.f0, .int .i64 v.use.f1, .int .i64 v.drift.f0, .int .i64 v.drift.f1, .int .i64 v.reserve] 29)).alloc (.cells #[.int .i64 x.f0.f0, .int .i64 x.f0.f1, .int .i64 x.f1.f0, .int .i64 x.f1.f1] 31)) (w.heap.size + 1 + 1) #[.int .i64 x.f0.f0, .int .i64 x.f0.f1, .int .i64 x.f1.f0, .int .i64 x.f1.f1] 31 := zq36
 have mB : Below w.heap.size w (((w.alloc (.cells #[.int .i64 s.nx, .int .i64 s.ny, .int .i64 s.cell, .int .i64 s.slot, .int .i64 s.slots, .int .i64 s.layers, .int .i64 s.most, .slice A7 s.shores.length c7, .slice A8 s.currents.length c8] 25)).alloc (.cells #[.int .i64 v.speed, .int .i64 v.dive, .int .i64 v.use.f0, .int .i64 v.use.f1, .int .i64 v.drift.f0, .int .i64 v.drift.f1, .int .i64 v.reserve] 29)).alloc (.cells #[.int .i64 x.f0.f0, .int .i64 x.f0.f1, .int .i64 x.f1.f0, .int .i64 x.f1.f1] 31)) := (below_alloc (below_alloc (below_alloc (Below.refl w.heap.size w) _) _) _)
 have hsz_ : w.heap.size ≤ w.heap.size := Nat.le_refl _
 generalize hW_ : (((w.alloc (.cells #[.int .i64 s.nx, .int .i64 s.ny, .int .i64 s.cell, .int .i64 s.slot, .int .i64 s.slots, .int .i64 s.layers, .int .i64 s.most, .slice A7 s.shores.length c7, .slice A8 s.currents.length c8] 25)).alloc (.cells #[.int .i64 v.speed, .int .i64 v.dive, .int .i64 v.use.f0, .int .i64 v.use.f1, .int .i64 v.drift.f0, .int .i64 v.drift.f1, .int .i64 v.reserve] 29)).alloc (.cells #[.int .i64 x.f0.f0, .int .i64 x.f0.f1, .int .i64 x.f1.f0, .int .i64 x.f1.f1] 31)) = W1 at m4 m5 m6 mB ⊢
 clear hW_
 generalize hg4 : w.heap.size = g4 at m4 m5 m6 ⊢
 have hG4 : w.heap.size ≤ g4 := by omega
 generalize hg5 : g4 + 1 = g5 at m5 m6 ⊢
 have hn_4_5 : g4 ≠ g5 := by omega
 have hn_5_4 : g5 ≠ g4 := hn_4_5.symm
 have hG5 : w.heap.size ≤ g5 := by omega
 generalize hg6 : g5 + 1 = g6 at m6 ⊢
 have hn_4_6 : g4 ≠ g6 := by omega
 have hn_5_6 : g5 ≠ g6 := by omega
 have hn_6_4 : g6 ≠ g4 := hn_4_6.symm
 have hn_6_5 : g6 ≠ g5 := hn_5_6.symm
 have hG6 : w.heap.size ≤ g6 := by omega
 clear hsz_
 try clear hg6
 try clear hg5
 try clear hg4
 have hs_W1 : w.heap.size ≤ W1.heap.size := mB.size
 have hcon := newTrip_any s v A7 A8 c7 c8 W1 h7 (Kd.C_below hC7 mB) h8 (Kd.C_below hC8 mB)
 (with_reducible refine hcon.mono ?_)
 clear hcon
 rintro e W2 ⟨ptr, rfl, hb, ⟨h0, g, rfl, hg, hT⟩ | ⟨h0, rfl⟩⟩
 case inr =>
  have HZ := Lib.hid (HE.out.trans (if_pos h0))
  replace mB := below_step mB hb
  clear hb HE
  have h00 := Lib.hid h0
  generalize hE_ : tripE s v = E0 at *
  have hE := Lib.hid hE_
  clear hE_
  have hd : (E0 == 0) = false := beq_eq_false_iff_ne.2 h0
  have hd2 : (E0 != 0) = true := by rw [bne, hd]; rfl
  clear h0
  go_wp2
  go_ret2
  exact ⟨none, zq14, mB, .inr ⟨by rw [hE.out]; exact h00.out, rfl⟩⟩
 case inl =>
  have HZ := Lib.hid (HE.out.trans (if_neg (fun h => h h0)))
  clear HE
  have hg0 : w.heap.size ≤ g := Nat.le_trans (m := W1.heap.size) (by assumption) hg
  replace m4 := blk_below m4 hb
  replace m5 := blk_below m5 hb
  replace m6 := blk_below m6 hb
  replace mB := below_step mB hb
  clear hb
  have H0 := Lib.hid h0
  rw [h0]
  clear h0
  have hs_W2 : w.heap.size ≤ W2.heap.size := mB.size
  obtain ⟨c6_0, c6_1, c6_2, c6_3⟩ := zcs4 m6
  go_wp2_with fail
  clear c6_0 c6_1 c6_2 c6_3
  have hcon := place_any x t W2
  (with_reducible refine hcon.mono ?_)
  clear hcon
  rintro e W3 ⟨rfl, hb⟩
  replace hT := hT.below hb
  replace m4 := blk_below m4 hb
  replace m5 := blk_below m5 hb
  replace m6 := blk_below m6 hb
  replace mB := below_step mB hb
  clear hb
  go_wp2
  go_ret2
  exact ⟨_, zq14, mB, .inl ⟨H0.out, g, rfl, hg0, hT⟩⟩
end Go.Proofs.Ytmhaiihjfgfaoaa.Gl
end
section
/- Dive and At, as the program answers. -/
namespace Go.Proofs.Ytmhaiihjfgfaoaa.Gl
open Go.RowKit Go.Shelf Go.Proofs.YtmhaiihjfgfaoaaW.PrintWords Go.Proofs.YtmhaiihjfgfaoaaW.PrintLast Go.Proofs.YtmhaiihjfgfaoaaW.PrintMore Go.Proofs.Ytmhaiihjfgfaoaa.Pr Go.Proofs.YtmhaiihjfgfaoaaW.Round
set_option linter.unusedVariables false
set_option linter.unusedSimpArgs false
attribute [local go_sem] max2_int min2_int max_two min_two max_four
theorem ite_ne_zero {a b : Int} (h : (if a ≠ 0 then a else b) = 0) : a = 0 ∧ b = 0 := by
 by_cases h0 : a = 0
 ·rw [if_neg (fun h => h h0)] at h
  exact ⟨h0, h⟩
 ·rw [if_pos h0] at h
  exact absurd h h0
/-- A row of one course. -/
theorem C_one33 {W : World} {b : Nat} {x y : Int} (h : W.heap[b]? = some (.cells #[.int .i64 x, .int .i64 y] 33 (0, 0))) : Kd.C k33 W (some ⟨b, 0, none⟩) 1 [⟨x, y⟩] := by
 refine ⟨rfl, by decide, fun _ => ⟨⟨b, 0, none⟩, rfl, fun j p hj => ?_⟩⟩
 match j, hj with
 | 0, hj =>
  obtain rfl : (⟨x, y⟩ : S33) = p := by simpa using hj
  refine ⟨_, rfl, k33_mk W ⟨x, y⟩, fun i u hu => ?_⟩
  match i, hu with
  | 0, hu => exact ((blk_cell h 0).trans (by simpa using hu))
  | 1, hu => exact ((blk_cell h 1).trans (by simpa using hu))
theorem crs_one {hd layer layers : Int} (hl : 1 ≤ layers) (h : crsE [⟨hd, layer⟩] layers = 0) : (0 ≤ hd ∧ hd ≤ 8) ∧ 0 ≤ layer ∧ layer < layers := by
 unfold crsE at h
 cases hb : ([⟨hd, layer⟩] : List S33).all (crsB layers) with
 | false => rw [hb] at h; simp at h
 | true =>
  simp only [List.all_cons, List.all_nil, Bool.and_true, crsB, Bool.and_eq_true, Bool.or_eq_true, decide_eq_true_eq, btwB_iff] at hb
  omega
theorem place_ok {x : S31} {t : Int} (h : placeE x t = 0) : BoxOK x ∧ 0 ≤ t ∧ t ≤ 1073741824 := by
 unfold placeE at h
 obtain ⟨h1, h2⟩ := ite_ne_zero h
 refine ⟨boxB_ok h1, ?_⟩
 cases hb : btwB t 0 1073741824 with
 | false => rw [hb] at h2; simp at h2
 | true => exact btwB_iff.1 hb
def DiveE (s : Sea) (v : Veh) (x : S31) (t hd layer : Int) : Int := if beginE s v x t ≠ 0 then beginE s v x t else if crsE [⟨hd, layer⟩] s.layers ≠ 0 then crsE [⟨hd, layer⟩] s.layers else diveE s v x t
def DiveV (s : Sea) (v : Veh) (x : S31) (t hd layer : Int) : S31 := if DiveE s v x t hd layer = 0 then diveV s v x t hd layer else z31
set_option maxRecDepth 100000 in
set_option maxHeartbeats 8000000 in
theorem Dive_any (s : Sea) (v : Veh) (x : S31) (t hd layer : Int) (A7 A8 : Option Addr) (c7 c8 : Nat) (w : World) (h7 : s.shores.length ≤ c7) (hC7 : Kd.C Kd.bool w A7 s.shores.length s.shores) (h8 : s.currents.length ≤ c8) (hC8 : Kd.C k40 w A8 s.currents.length s.currents) :
  Calls Try.prog 20 #[.agg #[.int .i64 s.nx, .int .i64 s.ny, .int .i64 s.cell, .int .i64 s.slot, .int .i64 s.slots, .int .i64 s.layers, .int .i64 s.most, .slice A7 s.shores.length c7, .slice A8 s.currents.length c8], .agg #[.int .i64 v.speed, .int .i64 v.dive, .int .i64 v.use.f0, .int .i64 v.use.f1, .int .i64 v.drift.f0, .int .i64 v.drift.f1, .int .i64 v.reserve], .agg #[.int .i64 x.f0.f0, .int .i64 x.f0.f1, .int .i64 x.f1.f0, .int .i64 x.f1.f1], .int .i64 t, .agg #[.int .i64 hd, .int .i64 layer]] w (RetB (.tuple #[.agg #[.int .i64 (DiveV s v x t hd layer).f0.f0, .int .i64 (DiveV s v x t hd layer).f0.f1, .int .i64 (DiveV s v x t hd layer).f1.f0, .int .i64 (DiveV s v x t hd layer).f1.f1], .int .i64 (DiveE s v x t hd layer)]) w) := by
 have hu25 := Try.underlying25
 have hu29 := Try.underlying29
 have hu31 := Try.underlying31
 have hu33 := Try.underlying33
 have hu27 := Try.underlying27
 have HE : Hid (DiveE s v x t hd layer = if beginE s v x t ≠ 0 then beginE s v x t else if crsE [⟨hd, layer⟩] s.layers ≠ 0 then crsE [⟨hd, layer⟩] s.layers else diveE s v x t) := Lib.hid rfl
 have HV : Hid (DiveV s v x t hd layer = if DiveE s v x t hd layer = 0 then diveV s v x t hd layer else z31) := Lib.hid rfl
 go_enter Try.func20, Try.ntmps20
 go_wp2_with fail
 have m5 : Blk (((((w.alloc (.cells #[.int .i64 s.nx, .int .i64 s.ny, .int .i64 s.cell, .int .i64 s.slot, .int .i64 s.slots, .int .i64 s.layers, .int .i64 s.most, .slice A7 s.shores.length c7, .slice A8 s.currents.length c8] 25)).alloc (.cells #[.int .i64 v.speed, .int .i64 v.dive, .int .i64 v.use.f0, .int .i64 v.use.f1, .int .i64 v.drift.f0, .int .i64 v.drift.f1, .int .i64 v.reserve] 29)).alloc (.cells #[.int .i64 x.f0.f0, .int .i64 x.f0.f1, .int .i64 x.f1.f0, .int .i64 x.f1.f1] 31)).alloc (.cells #[.int .i64 hd, .int .i64 layer] 33)).alloc (.cells #[.int .i64 0, .int .i64 0, .int .i64 0, .int .i64 0] 31)) (w.heap.size) #[.int .i64 s.nx, .int .i64 s.ny, .int .i64 s.cell, .int .i64 s.slot, .int .i64 s.slots, .int .i64 s.layers, .int .i64 s.most, .slice A7 s.shores.length c7, .slice A8 s.currents.length c8] 25 := (blk_alloc (blk_alloc (blk_alloc (blk_alloc zq13 _) _) _) _)
 have m6 : Blk (((((w.alloc (.cells #[.int .i64 s.nx, .int .i64 s.ny, .int .i64 s.cell, .int .i64 s.slot, .int .i64 s.slots, .int .i64 s.layers, .int .i64 s.most, .slice A7 s.shores.length c7, .slice A8 s.currents.length c8] 25)).alloc (.cells #[.int .i64 v.speed, .int .i64 v.dive, .int .i64 v.use.f0, .int .i64 v.use.f1, .int .i64 v.drift.f0, .int .i64 v.drift.f1, .int .i64 v.reserve] 29)).alloc (.cells #[.int .i64 x.f0.f0, .int .i64 x.f0.f1, .int .i64 x.f1.f0, .int .i64 x.f1.f1] 31)).alloc (.cells #[.int .i64 hd, .int .i64 layer] 33)).alloc (.cells #[.int .i64 0, .int .i64 0, .int .i64 0, .int .i64 0] 31)) (w.heap.size + 1) #[.int .i64 v.speed, .int .i64 v.dive, .int .i64 v.use.f0, .int .i64 v.use.f1, .int .i64 v.drift.f0, .int .i64 v.drift.f1, .int .i64 v.reserve] 29 := (blk_alloc (blk_alloc (blk_alloc zq35 _) _) _)
 have m7 : Blk (((((w.alloc (.cells #[.int .i64 s.nx, .int .i64 s.ny, .int .i64 s.cell, .int .i64 s.slot, .int .i64 s.slots, .int .i64 s.layers, .int .i64 s.most, .slice A7 s.shores.length c7, .slice A8 s.currents.length c8] 25)).alloc (.cells #[.int .i64 v.speed, .int .i64 v.dive, .int .i64 v.use.f0, .int .i64 v.use.f1, .int .i64 v.drift.f0, .int .i64 v.drift.f1, .int .i64 v.reserve] 29)).alloc (.cells #[.int .i64 x.f0.f0, .int .i64 x.f0.f1, .int .i64 x.f1.f0, .int .i64 x.f1.f1] 31)).alloc (.cells #[.int .i64 hd, .int .i64 layer] 33)).alloc (.cells #[.int .i64 0, .int .i64 0, .int .i64 0, .int .i64 0] 31)) (w.heap.size + 1 + 1) #[.int .i64 x.f0.f0, .int .i64 x.f0.f1, .int .i64 x.f1.f0, .int .i64 x.f1.f1] 31 := (blk_alloc (blk_alloc zq36 _) _)
 have m9 : Blk (((((w.alloc (.cells #[.int .i64 s.nx, .int .i64 s.ny, .int .i64 s.cell, .int .i64 s.slot, .int .i64 s.slots, .int .i64 s.layers, .int .i64 s.most, .slice A7 s.shores.length c7, .slice A8 s.currents.length c8] 25)).alloc (.cells #[.int .i64 v.speed, .int .i64 v.dive, .int .i64 v.use.f0, .int .i64 v.use.f1, .int .i64 v.drift.f0, .int .i64 v.drift.f1, .int .i64 v.reserve] 29)).alloc (.cells #[.int .i64 x.f0.f0, .int .i64 x.f0.f1, .int .i64 x.f1.f0, .int .i64 x.f1.f1] 31)).alloc (.cells #[.int .i64 hd, .int .i64 layer] 33)).alloc (.cells #[.int .i64 0, .int .i64 0, .int .i64 0, .int .i64 0] 31)) (w.heap.size + 1 + 1 + 1) #[.int .i64 hd, .int .i64 layer] 33 := (blk_alloc (by have h_ := blk_new (((w.alloc (.cells #[.int .i64 s.nx, .int .i64 s.ny, .int .i64 s.cell, .int .i64 s.slot, .int .i64 s.slots, .int .i64 s.layers, .int .i64 s.most, .slice A7 s.shores.length c7, .slice A8 s.currents.length c8] 25)).alloc (.cells #[.int .i64 v.speed, .int .i64 v.dive, .int .i64 v.use.f0, .int .i64 v.use.f1, .int .i64 v.drift.f0, .int .i64 v.drift.f1, .int .i64 v.reserve] 29)).alloc (.cells #[.int .i64 x.f0.f0, .int .i64 x.f0.f1, .int .i64 x.f1.f0, .int .i64 x.f1.f1] 31)) (.cells #[.int .i64 hd, .int .i64 layer] 33); first | exact h_ | (simp only [World.size_alloc] at h_; exact h_)) _)
 have m10 : Blk (((((w.alloc (.cells #[.int .i64 s.nx, .int .i64 s.ny, .int .i64 s.cell, .int .i64 s.slot, .int .i64 s.slots, .int .i64 s.layers, .int .i64 s.most, .slice A7 s.shores.length c7, .slice A8 s.currents.length c8] 25)).alloc (.cells #[.int .i64 v.speed, .int .i64 v.dive, .int .i64 v.use.f0, .int .i64 v.use.f1, .int .i64 v.drift.f0, .int .i64 v.drift.f1, .int .i64 v.reserve] 29)).alloc (.cells #[.int .i64 x.f0.f0, .int .i64 x.f0.f1, .int .i64 x.f1.f0, .int .i64 x.f1.f1] 31)).alloc (.cells #[.int .i64 hd, .int .i64 layer] 33)).alloc (.cells #[.int .i64 0, .int .i64 0, .int .i64 0, .int .i64 0] 31)) (w.heap.size + 1 + 1 + 1 + 1) #[.int .i64 0, .int .i64 0, .int .i64 0, .int .i64 0] 31 := (by have h_ := blk_new ((((w.alloc (.cells #[.int .i64 s.nx, .int .i64 s.ny, .int .i64 s.cell, .int .i64 s.slot, .int .i64 s.slots, .int .i64 s.layers, .int .i64 s.most, .slice A7 s.shores.length c7, .slice A8 s.currents.length c8] 25)).alloc (.cells #[.int .i64 v.speed, .int .i64 v.dive, .int .i64 v.use.f0, .int .i64 v.use.f1, .int .i64 v.drift.f0, .int .i64 v.drift.f1, .int .i64 v.reserve] 29)).alloc (.cells #[.int .i64 x.f0.f0, .int .i64 x.f0.f1, .int .i64 x.f1.f0, .int .i64 x.f1.f1] 31)).alloc (.cells #[.int .i64 hd, .int .i64 layer] 33)) (.cells #[.int .i64 0, .int .i64 0, .int .i64 0, .int .i64 0] 31); first | exact h_ | (simp only [World.size_alloc] at h_; exact h_))
 have mB : Below w.heap.size w (((((w.alloc (.cells #[.int .i64 s.nx, .int .i64 s.ny, .int .i64 s.cell, .int .i64 s.slot, .int .i64 s.slots, .int .i64 s.layers, .int .i64 s.most, .slice A7 s.shores.length c7, .slice A8 s.currents.length c8] 25)).alloc (.cells #[.int .i64 v.speed, .int .i64 v.dive, .int .i64 v.use.f0, .int .i64 v.use.f1, .int .i64 v.drift.f0, .int .i64 v.drift.f1, .int .i64 v.reserve] 29)).alloc (.cells #[.int .i64 x.f0.f0, .int .i64 x.f0.f1, .int .i64 x.f1.f0, .int .i64 x.f1.f1] 31)).alloc (.cells #[.int .i64 hd, .int .i64 layer] 33)).alloc (.cells #[.int .i64 0, .int .i64 0, .int .i64 0, .int .i64 0] 31)) := (below_alloc (below_alloc (below_alloc (below_alloc (below_alloc (Below.refl w.heap.size w) _) _) _) _) _)
 have hsz_ : w.heap.size ≤ w.heap.size := Nat.le_refl _
 generalize hW_ : (((((w.alloc (.cells #[.int .i64 s.nx, .int .i64 s.ny, .int .i64 s.cell, .int .i64 s.slot, .int .i64 s.slots, .int .i64 s.layers, .int .i64 s.most, .slice A7 s.shores.length c7, .slice A8 s.currents.length c8] 25)).alloc (.cells #[.int .i64 v.speed, .int .i64 v.dive, .int .i64 v.use.f0, .int .i64 v.use.f1, .int .i64 v.drift.f0, .int .i64 v.drift.f1, .int .i64 v.reserve] 29)).alloc (.cells #[.int .i64 x.f0.f0, .int .i64 x.f0.f1, .int .i64 x.f1.f0, .int .i64 x.f1.f1] 31)).alloc (.cells #[.int .i64 hd, .int .i64 layer] 33)).alloc (.cells #[.int .i64 0, .int .i64 0, .int .i64 0, .int .i64 0] 31)) = W1 at m5 m6 m7 m9 m10 mB ⊢
 clear hW_
 generalize hg5 : w.heap.size = g5 at m5 m6 m7 m9 m10 ⊢
 have hG5 : w.heap.size ≤ g5 := by omega
 generalize hg6 : g5 + 1 = g6 at m6 m7 m9 m10 ⊢
 have hn_5_6 : g5 ≠ g6 := by omega
 have hn_6_5 : g6 ≠ g5 := hn_5_6.symm
 have hG6 : w.heap.size ≤ g6 := by omega
 generalize hg7 : g6 + 1 = g7 at m7 m9 m10 ⊢
 have hn_5_7 : g5 ≠ g7 := by omega
 have hn_6_7 : g6 ≠ g7 := by omega
 have hn_7_5 : g7 ≠ g5 := hn_5_7.symm
 have hn_7_6 : g7 ≠ g6 := hn_6_7.symm
 have hG7 : w.heap.size ≤ g7 := by omega
 generalize hg9 : g7 + 1 = g9 at m9 m10 ⊢
 have hn_5_9 : g5 ≠ g9 := by omega
 have hn_6_9 : g6 ≠ g9 := by omega
 have hn_7_9 : g7 ≠ g9 := by omega
 have hn_9_5 : g9 ≠ g5 := hn_5_9.symm
 have hn_9_6 : g9 ≠ g6 := hn_6_9.symm
 have hn_9_7 : g9 ≠ g7 := hn_7_9.symm
 have hG9 : w.heap.size ≤ g9 := by omega
 generalize hg10 : g9 + 1 = g10 at m10 ⊢
 have hn_5_10 : g5 ≠ g10 := by omega
 have hn_6_10 : g6 ≠ g10 := by omega
 have hn_7_10 : g7 ≠ g10 := by omega
 have hn_9_10 : g9 ≠ g10 := by omega
 have hn_10_5 : g10 ≠ g5 := hn_5_10.symm
 have hn_10_6 : g10 ≠ g6 := hn_6_10.symm
 have hn_10_7 : g10 ≠ g7 := hn_7_10.symm
 have hn_10_9 : g10 ≠ g9 := hn_9_10.symm
 have hG10 : w.heap.size ≤ g10 := by omega
 clear hsz_
 try clear hg10
 try clear hg9
 try clear hg7
 try clear hg6
 try clear hg5
 have hs_W1 : w.heap.size ≤ W1.heap.size := mB.size
 have hbg : beginE s v x t = if tripE s v ≠ 0 then tripE s v else placeE x t := rfl
 have HBG := Lib.hid hbg
 clear hbg
 have hcon := begin_any s v x t A7 A8 c7 c8 W1 h7 (Kd.C_below hC7 mB) h8 (Kd.C_below hC8 mB)
 (with_reducible refine hcon.mono ?_)
 clear hcon
 rintro e W2 ⟨ptr, rfl, hb, hpt⟩
 replace m5 := blk_below m5 hb
 replace m6 := blk_below m6 hb
 replace m7 := blk_below m7 hb
 replace m9 := blk_below m9 hb
 replace m10 := blk_below m10 hb
 replace mB := below_step mB hb
 clear hb
 have hs_W2 : w.heap.size ≤ W2.heap.size := mB.size
 generalize hE_ : beginE s v x t = E0 at *
 have HE0 := Lib.hid hE_
 clear hE_
 by_cases h0 : E0 = 0
 case neg =>
  have HZ : Hid (DiveE s v x t hd layer = E0) := Lib.hid (HE.out.trans (if_pos h0))
  have HV2 : Hid (DiveV s v x t hd layer = z31) := Lib.hid (HV.out.trans (if_neg (by rw [HZ.out]; exact h0)))
  clear HV
  have hd1 : (E0 == 0) = false := beq_eq_false_iff_ne.2 h0
  have hd2 : (E0 != 0) = true := by rw [bne, hd1]; rfl
  clear h0 hpt HE
  obtain ⟨c10_0, c10_1, c10_2, c10_3, f10_0, f10_1, f10_2, f10_3⟩ := zce4 m10
  go_wp2
  exact bodyPost_ret (results_ct rfl _ _ g10 31 #[.int .i64 0, .int .i64 0, .int .i64 0, .int .i64 0] (0, 0) _ rfl (blk_put (blk_put (blk_put (blk_put m10 0 (.int .i64 0) rfl) 1 (.int .i64 0) rfl) 2 (.int .i64 0) rfl) 3 (.int .i64 0) rfl) Try.underlying31 rfl zq1) rfl ⟨zq22, (Below.setCell (p := ⟨g10, 3, none⟩) (Below.setCell (p := ⟨g10, 2, none⟩) (Below.setCell (p := ⟨g10, 1, none⟩) (Below.setCell (p := ⟨g10, 0, none⟩) mB hG10 _) hG10 _) hG10 _) hG10 _)⟩
 case pos =>
  have HE2 := Lib.hid (HE.out.trans (if_neg (fun h => h h0)))
  clear HE
  have hb0 := HBG.out.symm.trans h0
  obtain ⟨ht0, hp0⟩ := ite_ne_zero hb0
  obtain ⟨hbx, htt0, htt1⟩ := place_ok hp0
  obtain ⟨hSV, hVN⟩ := tripE_ok ht0
  rcases hpt with ⟨_, g, rfl, hg, hT⟩ | ⟨hbad, _⟩
  case inr => exact absurd ht0 hbad
  case inl =>
   subst h0
   clear hb0 ht0 hp0 HBG
   obtain ⟨c9_0, c9_1⟩ := zcs2 m9
   have c5_0 : ∀ o_, (W2.alloc o_).cell? ⟨g5, 0, none⟩ = some (.int .i64 s.nx) := fun o_ => (blk_cell (blk_alloc m5 o_) 0).trans rfl
   have c5_1 : ∀ o_, (W2.alloc o_).cell? ⟨g5, 1, none⟩ = some (.int .i64 s.ny) := fun o_ => (blk_cell (blk_alloc m5 o_) 1).trans rfl
   have c5_2 : ∀ o_, (W2.alloc o_).cell? ⟨g5, 2, none⟩ = some (.int .i64 s.cell) := fun o_ => (blk_cell (blk_alloc m5 o_) 2).trans rfl
   have c5_3 : ∀ o_, (W2.alloc o_).cell? ⟨g5, 3, none⟩ = some (.int .i64 s.slot) := fun o_ => (blk_cell (blk_alloc m5 o_) 3).trans rfl
   have c5_4 : ∀ o_, (W2.alloc o_).cell? ⟨g5, 4, none⟩ = some (.int .i64 s.slots) := fun o_ => (blk_cell (blk_alloc m5 o_) 4).trans rfl
   have c5_5 : ∀ o_, (W2.alloc o_).cell? ⟨g5, 5, none⟩ = some (.int .i64 s.layers) := fun o_ => (blk_cell (blk_alloc m5 o_) 5).trans rfl
   have c5_6 : ∀ o_, (W2.alloc o_).cell? ⟨g5, 6, none⟩ = some (.int .i64 s.most) := fun o_ => (blk_cell (blk_alloc m5 o_) 6).trans rfl
   have c5_7 : ∀ o_, (W2.alloc o_).cell? ⟨g5, 7, none⟩ = some (.slice A7 s.shores.length c7) := fun o_ => (blk_cell (blk_alloc m5 o_) 7).trans rfl
   have c5_8 : ∀ o_, (W2.alloc o_).cell? ⟨g5, 8, none⟩ = some (.slice A8 s.currents.length c8) := fun o_ => (blk_cell (blk_alloc m5 o_) 8).trans rfl
   go_wp2_with fail
   clear c5_0 c5_1 c5_2 c5_3 c5_4 c5_5 c5_6 c5_7 c5_8 c9_0 c9_1
   replace hT := hT.below (below_alloc (Below.refl _ W2) (.cells #[.int .i64 hd, .int .i64 layer] 33))
   have hl_5 := blk_lt m5
   have hl_6 := blk_lt m6
   have hl_7 := blk_lt m7
   have hl_9 := blk_lt m9
   have hl_10 := blk_lt m10
   have mc : Blk (W2.alloc (.cells #[.int .i64 hd, .int .i64 layer] 33)) (W2.heap.size) #[.int .i64 hd, .int .i64 layer] 33 := (by have h_ := blk_new W2 (.cells #[.int .i64 hd, .int .i64 layer] 33); first | exact h_ | (simp only [World.size_alloc] at h_; exact h_))
   replace m5 : Blk (W2.alloc (.cells #[.int .i64 hd, .int .i64 layer] 33)) g5 #[.int .i64 s.nx, .int .i64 s.ny, .int .i64 s.cell, .int .i64 s.slot, .int .i64 s.slots, .int .i64 s.layers, .int .i64 s.most, .slice A7 s.shores.length c7, .slice A8 s.currents.length c8] 25 := (blk_alloc m5 _)
   replace m6 : Blk (W2.alloc (.cells #[.int .i64 hd, .int .i64 layer] 33)) g6 #[.int .i64 v.speed, .int .i64 v.dive, .int .i64 v.use.f0, .int .i64 v.use.f1, .int .i64 v.drift.f0, .int .i64 v.drift.f1, .int .i64 v.reserve] 29 := (blk_alloc m6 _)
   replace m7 : Blk (W2.alloc (.cells #[.int .i64 hd, .int .i64 layer] 33)) g7 #[.int .i64 x.f0.f0, .int .i64 x.f0.f1, .int .i64 x.f1.f0, .int .i64 x.f1.f1] 31 := (blk_alloc m7 _)
   replace m9 : Blk (W2.alloc (.cells #[.int .i64 hd, .int .i64 layer] 33)) g9 #[.int .i64 hd, .int .i64 layer] 33 := (blk_alloc m9 _)
   replace m10 : Blk (W2.alloc (.cells #[.int .i64 hd, .int .i64 layer] 33)) g10 #[.int .i64 0, .int .i64 0, .int .i64 0, .int .i64 0] 31 := (blk_alloc m10 _)
   replace mB : Below w.heap.size w (W2.alloc (.cells #[.int .i64 hd, .int .i64 layer] 33)) := (below_alloc mB _)
   have hsz_ : w.heap.size ≤ W2.heap.size := hs_W2
   generalize hW_ : (W2.alloc (.cells #[.int .i64 hd, .int .i64 layer] 33)) = W3 at m5 m6 m7 m9 m10 mc mB hT ⊢
   clear hW_
   generalize hgc : W2.heap.size = gc at mc ⊢
   have hn_5_c : g5 ≠ gc := by omega
   have hn_6_c : g6 ≠ gc := by omega
   have hn_7_c : g7 ≠ gc := by omega
   have hn_9_c : g9 ≠ gc := by omega
   have hn_10_c : g10 ≠ gc := by omega
   have hn_c_5 : gc ≠ g5 := hn_5_c.symm
   have hn_c_6 : gc ≠ g6 := hn_6_c.symm
   have hn_c_7 : gc ≠ g7 := hn_7_c.symm
   have hn_c_9 : gc ≠ g9 := hn_9_c.symm
   have hn_c_10 : gc ≠ g10 := hn_10_c.symm
   have hGc : w.heap.size ≤ gc := by omega
   clear hsz_ hl_5 hl_6 hl_7 hl_9 hl_10
   try clear hgc
   have hs_W3 : w.heap.size ≤ W3.heap.size := mB.size
   have hcon := crs_any (some ⟨gc, 0, none⟩) 1 [⟨hd, layer⟩] s.layers W3 (C_one33 mc) (Nat.le_refl 1)
   dsimp only [List.length_cons, List.length_nil, Nat.zero_add] at hcon
   (with_reducible refine hcon.mono ?_)
   clear hcon
   rintro e W4 ⟨rfl, hb⟩
   replace hT := hT.below hb
   replace m5 := blk_below m5 hb
   replace m6 := blk_below m6 hb
   replace m7 := blk_below m7 hb
   replace m9 := blk_below m9 hb
   replace m10 := blk_below m10 hb
   replace mc := blk_below mc hb
   replace mB := below_step mB hb
   clear hb
   have hs_W4 : w.heap.size ≤ W4.heap.size := mB.size
   have hc1 := crs_one (hd := hd) (layer := layer) hSV.n.layers.1
   generalize crsE [⟨hd, layer⟩] s.layers = E1 at *
   by_cases h1 : E1 = 0
   case neg =>
    have HZ : Hid (DiveE s v x t hd layer = E1) := Lib.hid (HE2.out.trans (if_pos h1))
    have HV2 : Hid (DiveV s v x t hd layer = z31) := Lib.hid (HV.out.trans (if_neg (by rw [HZ.out]; exact h1)))
    clear HV
    have hd1 : (E1 == 0) = false := beq_eq_false_iff_ne.2 h1
    have hd2 : (E1 != 0) = true := by rw [bne, hd1]; rfl
    clear h1 hc1 HE2
    obtain ⟨c10_0, c10_1, c10_2, c10_3, f10_0, f10_1, f10_2, f10_3⟩ := zce4 m10
    go_wp2
    exact bodyPost_ret (results_ct rfl _ _ g10 31 #[.int .i64 0, .int .i64 0, .int .i64 0, .int .i64 0] (0, 0) _ rfl (blk_put (blk_put (blk_put (blk_put m10 0 (.int .i64 0) rfl) 1 (.int .i64 0) rfl) 2 (.int .i64 0) rfl) 3 (.int .i64 0) rfl) Try.underlying31 rfl zq1) rfl ⟨zq22, (Below.setCell (p := ⟨g10, 3, none⟩) (Below.setCell (p := ⟨g10, 2, none⟩) (Below.setCell (p := ⟨g10, 1, none⟩) (Below.setCell (p := ⟨g10, 0, none⟩) mB hG10 _) hG10 _) hG10 _) hG10 _)⟩
   case pos =>
    obtain ⟨⟨hh0, hh1⟩, hl0, hl1⟩ := hc1 h1
    have HE3 := Lib.hid (HE2.out.trans (if_neg (fun h => h h1)))
    clear HE2 hc1
    subst h1
    obtain ⟨c7_0, c7_1, c7_2, c7_3⟩ := zcs4 m7
    obtain ⟨c9_0, c9_1⟩ := zcs2 m9
    go_wp2_with fail
    clear c7_0 c7_1 c7_2 c7_3 c9_0 c9_1
    have hcon := dive_any g s v x t hd layer W4 hT hSV hVN hbx htt0 (by omega) hh0 hh1 hl0 hl1
    (with_reducible refine hcon.mono ?_)
    clear hcon
    rintro e W5 ⟨rfl, hb⟩
    replace m5 := blk_below m5 hb
    replace m6 := blk_below m6 hb
    replace m7 := blk_below m7 hb
    replace m9 := blk_below m9 hb
    replace m10 := blk_below m10 hb
    replace mc := blk_below mc hb
    replace mB := below_step mB hb
    clear hb
    have hs_W5 : w.heap.size ≤ W5.heap.size := mB.size
    have HV2 : Hid (DiveV s v x t hd layer = diveV s v x t hd layer) := Lib.hid (by rw [HV.out, HE3.out]; by_cases hz : diveE s v x t = 0; exact if_pos hz; rw [if_neg hz]; unfold diveV; rw [if_neg hz])
    clear HV
    generalize diveV s v x t hd layer = Y at *
    obtain ⟨c10_0, c10_1, c10_2, c10_3, f10_0, f10_1, f10_2, f10_3⟩ := zce4 m10
    go_wp2
    exact bodyPost_ret (results_ct rfl _ _ g10 31 #[.int .i64 Y.f0.f0, .int .i64 Y.f0.f1, .int .i64 Y.f1.f0, .int .i64 Y.f1.f1] (0, 0) _ rfl (blk_put (blk_put (blk_put (blk_put m10 0 (.int .i64 Y.f0.f0) rfl) 1 (.int .i64 Y.f0.f1) rfl) 2 (.int .i64 Y.f1.f0) rfl) 3 (.int .i64 Y.f1.f1) rfl) Try.underlying31 rfl zq1) rfl ⟨by rw [HV2.out, HE3.out]; rfl, (Below.setCell (p := ⟨g10, 3, none⟩) (Below.setCell (p := ⟨g10, 2, none⟩) (Below.setCell (p := ⟨g10, 1, none⟩) (Below.setCell (p := ⟨g10, 0, none⟩) mB hG10 _) hG10 _) hG10 _) hG10 _)⟩
end Go.Proofs.Ytmhaiihjfgfaoaa.Gl
end
section
/- At, as the program answers. -/
namespace Go.Proofs.Ytmhaiihjfgfaoaa.Gl
open Go.RowKit Go.Shelf Go.Proofs.YtmhaiihjfgfaoaaW.PrintWords Go.Proofs.YtmhaiihjfgfaoaaW.PrintLast Go.Proofs.YtmhaiihjfgfaoaaW.PrintMore Go.Proofs.Ytmhaiihjfgfaoaa.Pr Go.Proofs.YtmhaiihjfgfaoaaW.Round
set_option linter.unusedVariables false
set_option linter.unusedSimpArgs false
attribute [local go_sem] max2_int min2_int max_two min_two max_four
end Go.Proofs.Ytmhaiihjfgfaoaa.Gl
end
section
/- The contracts of exported functions, as the printed texts ask for them. -/
namespace Go.Proofs.Ytmhaiihjfgfaoaa.Pr
open Go.RowKit Go.Proofs.YtmhaiihjfgfaoaaW.PrintWords Go.Proofs.YtmhaiihjfgfaoaaW.PrintLast Go.Proofs.YtmhaiihjfgfaoaaW.PrintMore Go.Proofs.Ytmhaiihjfgfaoaa.Gl
set_option linter.unusedVariables false
def glider_CheckSea.f (a0_0 : Int) (a0_1 : Int) (a0_2 : Int) (a0_3 : Int) (a0_4 : Int) (a0_5 : Int) (a0_6 : Int) (l0_7 : List Bool) (l0_8 : List (S40)) : Option (Int) := some (seaE ⟨a0_0, a0_1, a0_2, a0_3, a0_4, a0_5, a0_6, l0_7, l0_8⟩)
theorem glider_CheckSea.calls (a0_0 : Int) (a0_1 : Int) (a0_2 : Int) (a0_3 : Int) (a0_4 : Int) (a0_5 : Int) (a0_6 : Int) (A0_7 : Option Addr) (c0_7 : Nat) (l0_7 : List Bool) (A0_8 : Option Addr) (c0_8 : Nat) (l0_8 : List (S40)) (r : Int) (w : World) (hr0_7 : Kd.C Kd.bool w A0_7 l0_7.length l0_7) (hc0_7 : l0_7.length ≤ c0_7) (hr0_8 : Kd.C k40 w A0_8 l0_8.length l0_8) (hc0_8 : l0_8.length ≤ c0_8) (h : glider_CheckSea.f a0_0 a0_1 a0_2 a0_3 a0_4 a0_5 a0_6 l0_7 l0_8 = some r) :
  Calls Try.prog 25 #[.agg #[.int .i64 a0_0, .int .i64 a0_1, .int .i64 a0_2, .int .i64 a0_3, .int .i64 a0_4, .int .i64 a0_5, .int .i64 a0_6, .slice A0_7 l0_7.length c0_7, .slice A0_8 l0_8.length c0_8]] w fun e w' => e = .returned (.int .i64 r) ∧ Below w.heap.size w w' := by
 cases h
 exact sea_any ⟨a0_0, a0_1, a0_2, a0_3, a0_4, a0_5, a0_6, l0_7, l0_8⟩ A0_7 A0_8 c0_7 c0_8 w hc0_7 hr0_7 hc0_8 hr0_8

def glider_Dive.f (a0_0 : Int) (a0_1 : Int) (a0_2 : Int) (a0_3 : Int) (a0_4 : Int) (a0_5 : Int) (a0_6 : Int) (l0_7 : List Bool) (l0_8 : List (S40)) (a1_0 : Int) (a1_1 : Int) (a1_2 : Int) (a1_3 : Int) (a1_4 : Int) (a1_5 : Int) (a1_6 : Int) (a2_0 : Int) (a2_1 : Int) (a2_2 : Int) (a2_3 : Int) (a3 : Int) (a4_0 : Int) (a4_1 : Int) : Option (Int × Int × Int × Int × Int) := some ((DiveV ⟨a0_0, a0_1, a0_2, a0_3, a0_4, a0_5, a0_6, l0_7, l0_8⟩ ⟨a1_0, a1_1, ⟨a1_2, a1_3⟩, ⟨a1_4, a1_5⟩, a1_6⟩ ⟨⟨a2_0, a2_1⟩, ⟨a2_2, a2_3⟩⟩ a3 a4_0 a4_1).f0.f0, (DiveV ⟨a0_0, a0_1, a0_2, a0_3, a0_4, a0_5, a0_6, l0_7, l0_8⟩ ⟨a1_0, a1_1, ⟨a1_2, a1_3⟩, ⟨a1_4, a1_5⟩, a1_6⟩ ⟨⟨a2_0, a2_1⟩, ⟨a2_2, a2_3⟩⟩ a3 a4_0 a4_1).f0.f1, (DiveV ⟨a0_0, a0_1, a0_2, a0_3, a0_4, a0_5, a0_6, l0_7, l0_8⟩ ⟨a1_0, a1_1, ⟨a1_2, a1_3⟩, ⟨a1_4, a1_5⟩, a1_6⟩ ⟨⟨a2_0, a2_1⟩, ⟨a2_2, a2_3⟩⟩ a3 a4_0 a4_1).f1.f0, (DiveV ⟨a0_0, a0_1, a0_2, a0_3, a0_4, a0_5, a0_6, l0_7, l0_8⟩ ⟨a1_0, a1_1, ⟨a1_2, a1_3⟩, ⟨a1_4, a1_5⟩, a1_6⟩ ⟨⟨a2_0, a2_1⟩, ⟨a2_2, a2_3⟩⟩ a3 a4_0 a4_1).f1.f1, DiveE ⟨a0_0, a0_1, a0_2, a0_3, a0_4, a0_5, a0_6, l0_7, l0_8⟩ ⟨a1_0, a1_1, ⟨a1_2, a1_3⟩, ⟨a1_4, a1_5⟩, a1_6⟩ ⟨⟨a2_0, a2_1⟩, ⟨a2_2, a2_3⟩⟩ a3 a4_0 a4_1)
theorem glider_Dive.calls (a0_0 : Int) (a0_1 : Int) (a0_2 : Int) (a0_3 : Int) (a0_4 : Int) (a0_5 : Int) (a0_6 : Int) (A0_7 : Option Addr) (c0_7 : Nat) (l0_7 : List Bool) (A0_8 : Option Addr) (c0_8 : Nat) (l0_8 : List (S40)) (a1_0 : Int) (a1_1 : Int) (a1_2 : Int) (a1_3 : Int) (a1_4 : Int) (a1_5 : Int) (a1_6 : Int) (a2_0 : Int) (a2_1 : Int) (a2_2 : Int) (a2_3 : Int) (a3 : Int) (a4_0 : Int) (a4_1 : Int) (r1 : Int) (r2 : Int) (r3 : Int) (r4 : Int) (r5 : Int) (w : World) (hr0_7 : Kd.C Kd.bool w A0_7 l0_7.length l0_7) (hc0_7 : l0_7.length ≤ c0_7) (hr0_8 : Kd.C k40 w A0_8 l0_8.length l0_8) (hc0_8 : l0_8.length ≤ c0_8) (h : glider_Dive.f a0_0 a0_1 a0_2 a0_3 a0_4 a0_5 a0_6 l0_7 l0_8 a1_0 a1_1 a1_2 a1_3 a1_4 a1_5 a1_6 a2_0 a2_1 a2_2 a2_3 a3 a4_0 a4_1 = some (r1, r2, r3, r4, r5)) :
  Calls Try.prog 20 #[.agg #[.int .i64 a0_0, .int .i64 a0_1, .int .i64 a0_2, .int .i64 a0_3, .int .i64 a0_4, .int .i64 a0_5, .int .i64 a0_6, .slice A0_7 l0_7.length c0_7, .slice A0_8 l0_8.length c0_8], .agg #[.int .i64 a1_0, .int .i64 a1_1, .int .i64 a1_2, .int .i64 a1_3, .int .i64 a1_4, .int .i64 a1_5, .int .i64 a1_6], .agg #[.int .i64 a2_0, .int .i64 a2_1, .int .i64 a2_2, .int .i64 a2_3], .int .i64 a3, .agg #[.int .i64 a4_0, .int .i64 a4_1]] w fun e w' => e = .returned (.tuple #[.agg #[.int .i64 r1, .int .i64 r2, .int .i64 r3, .int .i64 r4], .int .i64 r5]) ∧ Below w.heap.size w w' := by
 cases h
 exact Dive_any ⟨a0_0, a0_1, a0_2, a0_3, a0_4, a0_5, a0_6, l0_7, l0_8⟩ ⟨a1_0, a1_1, ⟨a1_2, a1_3⟩, ⟨a1_4, a1_5⟩, a1_6⟩ ⟨⟨a2_0, a2_1⟩, ⟨a2_2, a2_3⟩⟩ a3 a4_0 a4_1 A0_7 A0_8 c0_7 c0_8 w hc0_7 hr0_7 hc0_8 hr0_8

end Go.Proofs.Ytmhaiihjfgfaoaa.Pr
end
