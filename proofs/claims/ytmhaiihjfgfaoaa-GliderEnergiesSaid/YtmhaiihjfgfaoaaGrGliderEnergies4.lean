/- Part 4 of the proof of GliderEnergies: what the functions compute. No condition. -/
import Derived.Test.YtmhaiihjfgfaoaaGrGliderEnergies1
import Derived.Test.YtmhaiihjfgfaoaaGrGliderEnergies2
import Derived.Test.YtmhaiihjfgfaoaaGrGliderEnergies3
section
/- A trip, as the program makes it, or the error. -/
namespace Go.Proofs.Ytmhaiihjfgfaoaa.Gl
open Go.RowKit Go.Shelf Go.Proofs.YtmhaiihjfgfaoaaW.PrintWords Go.Proofs.YtmhaiihjfgfaoaaW.PrintLast Go.Proofs.YtmhaiihjfgfaoaaW.PrintMore Go.Proofs.Ytmhaiihjfgfaoaa.Pr Go.Proofs.YtmhaiihjfgfaoaaW.Round
set_option linter.unusedVariables false
set_option linter.unusedSimpArgs false
attribute [local go_sem] max2_int min2_int max_two min_two max_four
theorem wrap_id' {n : Int} (h0 : -9223372036854775808 ≤ n) (h1 : n ≤ 9223372036854775807) : wrap64 n = n := by unfold wrap64; omega
/-- Is a vehicle valid? -/
def vehB (v : Veh) : Bool := btwB v.speed 0 5000 && btwB v.dive 1 131072 && bndB v.use.f0 v.use.f1 0 1073741824 && bndB v.drift.f0 v.drift.f1 0 1073741824 && btwB v.reserve 0 1073741824
def vehE (v : Veh) : Int := if vehB v then 0 else 2
theorem btw_some (x lo hi : Int) : glider_between.f x lo hi = some (btwB x lo hi) := by
  unfold glider_between.f btwB
  by_cases h : x ≥ lo
  · rw [if_pos h, show decide (lo ≤ x) = true from decide_eq_true h]; simp
  · rw [if_neg h, show decide (lo ≤ x) = false from decide_eq_false h]; simp
theorem veh_some (v : Veh) : glider_CheckVehicle.f 4 v.speed v.dive v.use.f0 v.use.f1 v.drift.f0 v.drift.f1 v.reserve = some (vehE v) := by
  unfold glider_CheckVehicle.f vehE vehB
  simp only [btw_some, bnd_some 2, Option.bind_some]
  cases btwB v.speed 0 5000 <;> cases btwB v.dive 1 131072 <;> cases bndB v.use.f0 v.use.f1 0 1073741824 <;> cases bndB v.drift.f0 v.drift.f1 0 1073741824 <;> cases btwB v.reserve 0 1073741824 <;> rfl
theorem veh_any (v : Veh) (w : World) : Calls Try.prog 27 #[.agg #[.int .i64 v.speed, .int .i64 v.dive, .int .i64 v.use.f0, .int .i64 v.use.f1, .int .i64 v.drift.f0, .int .i64 v.drift.f1, .int .i64 v.reserve]] w (RetB (.int .i64 (vehE v)) w) := glider_CheckVehicle.calls 4 _ _ _ _ _ _ _ _ w (veh_some v)
/-- Is a box valid? -/
def boxB (x : S31) : Bool := (okS x.f0.f0 x.f0.f1 && okS x.f1.f0 x.f1.f1) && (btwB x.f0.f0 (-268435456) 268435456 && btwB x.f0.f1 (-268435456) 268435456 && btwB x.f1.f0 (-268435456) 268435456 && btwB x.f1.f1 (-268435456) 268435456)
def boxE (x : S31) : Int := if boxB x then 0 else 2
theorem check_two (k : Nat) (a b : S27) : bound_check.f (k + 3) [a, b] = some (if okS a.f0 a.f1 && okS b.f0 b.f1 then 0 else 2) := by
  unfold bound_check.f
  have e1 : (([a, b] : List S27).length : Int) = 2 := rfl
  have r0 : rd_T27 [a, b] 0 = a := rfl
  have r1 : rd_T27 [a, b] 1 = b := rfl
  have w1 : wrap64 (0 + 1) = 1 := wrap_id' (by decide) (by decide)
  have w2 : wrap64 (1 + 1) = 2 := wrap_id' (by decide) (by decide)
  have step : ∀ (c : S27) (r : Option Int), (if c.f0 > c.f1 then some 2 else if c.f0 < -1073741824 then some 2 else if c.f1 > 1073741824 then some 2 else r) = if okS c.f0 c.f1 then r else some 2 := by
    intro c r
    cases h : okS c.f0 c.f1 with
    | true =>
      have := okS_iff.1 h
      rw [if_neg (by omega), if_neg (by omega), if_neg (by omega), if_pos rfl]
    | false =>
      have hn : ¬ (c.f0 ≤ c.f1 ∧ -1073741824 ≤ c.f0 ∧ c.f1 ≤ 1073741824) := fun h2 => by rw [okS_iff.2 h2] at h; cases h
      rw [show (if false = true then r else some 2) = some 2 from rfl]
      by_cases h1 : c.f0 > c.f1
      · rw [if_pos h1]
      · rw [if_neg h1]
        by_cases h2 : c.f0 < -1073741824
        · rw [if_pos h2]
        · rw [if_neg h2, if_pos (by omega)]
  simp only [bound_check.l0, e1]
  rw [if_pos (by decide), if_pos (by decide), if_pos (by decide), r0, step]
  cases ha : okS a.f0 a.f1 with
  | false => rfl
  | true =>
    rw [if_pos rfl, w1, if_pos (by decide), if_pos (by decide), if_pos (by decide), r1, step]
    cases hb : okS b.f0 b.f1 with
    | false => rfl
    | true =>
      rw [if_pos rfl, w2, if_neg (by decide)]
      rfl
theorem box_some (x : S31) : bound_CheckBox.f 4 x.f0.f0 x.f0.f1 x.f1.f0 x.f1.f1 = some (boxE x) := by
  unfold bound_CheckBox.f boxE boxB
  rw [check_two 1, Option.bind_some]
  cases h : (okS x.f0.f0 x.f0.f1 && okS x.f1.f0 x.f1.f1) with
  | false => rfl
  | true =>
    rw [Bool.and_eq_true] at h
    have h1 := okS_iff.1 h.1
    have h2 := okS_iff.1 h.2
    have am : ∀ a : Int, -1073741824 ≤ a → a ≤ 1073741824 → bound_amount.f a = some (max a (-a)) := fun a h0 h1 => by
      unfold bound_amount.f
      rw [mx_max', wrap_id' (by omega) (by omega)]
    rw [show (if (true = true) then (0 : Int) else 2) = 0 from rfl, if_pos rfl]
    simp only [am _ h1.2.1 (by omega), am _ (show -1073741824 ≤ x.f0.f1 by omega) h1.2.2, am _ h2.2.1 (by omega), am _ (show -1073741824 ≤ x.f1.f1 by omega) h2.2.2, Option.bind_some, mx_max']
    by_cases hb : max (max (max (max x.f0.f0 (-x.f0.f0)) (max x.f0.f1 (-x.f0.f1))) (max x.f1.f0 (-x.f1.f0))) (max x.f1.f1 (-x.f1.f1)) > 268435456
    · rw [if_pos hb, if_neg]
      rw [Bool.true_and, Bool.and_eq_true, Bool.and_eq_true, Bool.and_eq_true, btwB_iff, btwB_iff, btwB_iff, btwB_iff]
      omega
    · rw [if_neg hb, if_pos]
      rw [Bool.true_and, Bool.and_eq_true, Bool.and_eq_true, Bool.and_eq_true, btwB_iff, btwB_iff, btwB_iff, btwB_iff]
      omega
theorem box_any (x : S31) (w : World) : Calls Try.prog 67 #[.agg #[.int .i64 x.f0.f0, .int .i64 x.f0.f1, .int .i64 x.f1.f0, .int .i64 x.f1.f1]] w (RetB (.int .i64 (boxE x)) w) := bound_CheckBox.calls 4 _ _ _ _ _ w (box_some x)
def placeE (x : S31) (t : Int) : Int := if boxE x ≠ 0 then boxE x else if btwB t 0 1073741824 then 0 else 3
theorem place_some (x : S31) (t : Int) : glider_checkPlace.f 4 x.f0.f0 x.f0.f1 x.f1.f0 x.f1.f1 t = some (placeE x t) := by
  unfold glider_checkPlace.f placeE
  rw [box_some, Option.bind_some, btw_some, Option.bind_some]
  by_cases h : boxE x = 0
  · rw [if_pos h, if_neg (show ¬ (boxE x ≠ 0) from fun h2 => h2 h)]
    cases btwB t 0 1073741824 <;> rfl
  · rw [if_neg h, if_pos h]
theorem place_any (x : S31) (t : Int) (w : World) : Calls Try.prog 114 #[.agg #[.int .i64 x.f0.f0, .int .i64 x.f0.f1, .int .i64 x.f1.f0, .int .i64 x.f1.f1], .int .i64 t] w (RetB (.int .i64 (placeE x t)) w) := glider_checkPlace.calls 4 _ _ _ _ _ _ w (place_some x t)
/-- Is a course valid, for so many layers? -/
def crsB (layers : Int) (c : S33) : Bool := btwB c.f0 0 8 && decide (0 ≤ c.f1) && (decide (layers < 0) || decide (c.f1 < layers))
def crsE (l : List S33) (layers : Int) : Int := if l.length > 64 then 6 else if l.all (crsB layers) then 0 else 2
theorem crs_loop (layers : Int) (l : List S33) (hl : l.length ≤ 64) : ∀ (m i k : Nat), i + m = l.length → m < k → glider_checkCourses.l0 k layers l (l.length : Int) (i : Int) = some (if (l.drop i).all (crsB layers) then 0 else 2) := by
  intro m
  induction m with
  | zero =>
    intro i k h hk
    obtain ⟨k, rfl⟩ : ∃ q, k = q + 1 := ⟨k - 1, by omega⟩
    rw [glider_checkCourses.l0, if_neg (by omega), List.drop_of_length_le (by omega)]
    rfl
  | succ m ih =>
    intro i k h hk
    obtain ⟨k, rfl⟩ : ∃ q, k = q + 1 := ⟨k - 1, by omega⟩
    have hi : i < l.length := by omega
    have hr : rd_T33 l (i : Int) = l[i] := by
      unfold rd_T33
      rw [List.getD_eq_getElem?_getD, Int.toNat_natCast, List.getElem?_eq_getElem hi]
      rfl
    have hih := ih (i + 1) k (by omega) (by omega)
    rw [glider_checkCourses.l0, if_pos (by omega), if_pos (by omega), if_pos (by omega), hr, wrap_id' (by omega) (by omega), show ((i : Int) + 1) = ((i + 1 : Nat) : Int) by omega, hih, List.drop_eq_getElem_cons hi, List.all_cons]
    cases hb : crsB layers l[i] with
    | true =>
      have hb2 : crsB layers l[i] = true := hb
      unfold crsB at hb2
      simp only [Bool.and_eq_true, Bool.or_eq_true, decide_eq_true_eq, btwB_iff] at hb2
      rw [Bool.true_and, if_neg (by omega), if_neg (by omega), if_neg (by omega)]
      by_cases h0 : layers ≥ 0
      · rw [if_pos h0, if_neg (by omega)]
      · rw [if_neg h0]
    | false =>
      have hn : ¬ ((0 ≤ l[i].f0 ∧ l[i].f0 ≤ 8) ∧ 0 ≤ l[i].f1 ∧ (layers < 0 ∨ l[i].f1 < layers)) := fun h2 => by
        have : crsB layers l[i] = true := by
          unfold crsB
          simp only [Bool.and_eq_true, Bool.or_eq_true, decide_eq_true_eq, btwB_iff]
          exact ⟨⟨h2.1, h2.2.1⟩, h2.2.2⟩
        rw [this] at hb
        cases hb
      rw [Bool.false_and, if_neg (show ¬ (false = true) by decide)]
      by_cases a1 : l[i].f0 < 0
      · rw [if_pos a1]
      · rw [if_neg a1]
        by_cases a2 : l[i].f0 ≥ 9
        · rw [if_pos a2]
        · rw [if_neg a2]
          by_cases a3 : l[i].f1 < 0
          · rw [if_pos a3]
          · rw [if_neg a3, if_pos (by omega), if_pos (by omega)]
theorem crs_some (l : List S33) (layers : Int) : glider_checkCourses.f 66 l layers = some (crsE l layers) := by
  unfold glider_checkCourses.f crsE
  by_cases h : l.length > 64
  · rw [if_pos (by omega), if_pos h]
  · rw [if_neg (by omega), if_neg h]
    have := crs_loop layers l (by omega) l.length 0 66 (by omega) (by omega)
    rw [List.drop_zero] at this
    exact this
theorem crs_any (A : Option Addr) (c : Nat) (l : List S33) (layers : Int) (w : World) (hC : Kd.C k33 w A l.length l) (hc : l.length ≤ c) : Calls Try.prog 65 #[.slice A l.length c, .int .i64 layers] w (RetB (.int .i64 (crsE l layers)) w) := glider_checkCourses.calls 66 _ _ _ _ _ w hC hc (crs_some l layers)
theorem sea_two (s : Sea) : (seaE s = 0 ∧ seaB s = true) ∨ seaE s = 2 := by
  unfold seaE
  cases seaB s
  · exact .inr rfl
  · exact .inl ⟨rfl, rfl⟩
theorem veh_two (v : Veh) : (vehE v = 0 ∧ vehB v = true) ∨ vehE v = 2 := by
  unfold vehE
  cases vehB v
  · exact .inr rfl
  · exact .inl ⟨rfl, rfl⟩
theorem bndB_iff {lo hi a b : Int} : bndB lo hi a b = true ↔ (lo ≤ hi ∧ -1073741824 ≤ lo ∧ hi ≤ 1073741824) ∧ a ≤ lo ∧ hi ≤ b := by unfold bndB; simp only [Bool.and_eq_true, decide_eq_true_eq, okS_iff]; exact and_assoc
theorem seaB_ok {s : Sea} (h : seaB s = true) : SeaV s := by
  unfold seaB at h
  simp only [Bool.and_eq_true, decide_eq_true_eq, btwB_iff, Bool.not_eq_true'] at h
  obtain ⟨⟨⟨⟨⟨⟨⟨⟨⟨h0, h1⟩, h2⟩, h3⟩, h4⟩, h5⟩, h6⟩, h7⟩, h8⟩, h9⟩ := h
  refine ⟨⟨h0, h1, h2, h3, h4, h5, h6⟩, h7, h8, fun c hc => ?_⟩
  have := List.any_eq_false.1 h9 c hc
  unfold badC at this
  simp only [Bool.not_eq_true, Bool.or_eq_false_iff, Bool.not_eq_false', bndB_iff] at this
  omega
theorem vehB_ok {v : Veh} (h : vehB v = true) : VehN v := by
  unfold vehB at h
  simp only [Bool.and_eq_true, btwB_iff] at h
  exact ⟨h.1.1.1.1, h.1.1.1.2⟩
theorem boxB_ok {x : S31} (h : boxE x = 0) : BoxOK x := by
  unfold boxE at h
  cases hb : boxB x with
  | false => rw [hb] at h; cases h
  | true =>
    unfold boxB at hb
    simp only [Bool.and_eq_true, btwB_iff, okS_iff] at hb
    unfold BoxOK SmallB
    omega
def tripE (s : Sea) (v : Veh) : Int := if seaE s ≠ 0 then seaE s else vehE v
theorem tripE_ok {s : Sea} {v : Veh} (h : tripE s v = 0) : SeaV s ∧ VehN v := by
  unfold tripE at h
  rcases sea_two s with ⟨h1, h2⟩ | h1
  · rw [if_neg (by omega)] at h
    rcases veh_two v with ⟨h3, h4⟩ | h3
    · exact ⟨seaB_ok h2, vehB_ok h4⟩
    · omega
  · rw [if_pos (by omega)] at h
    omega
def TripPost (s : Sea) (v : Veh) (E : Int) (w : World) (e : Ending) (w' : World) : Prop :=
  ∃ ptr, e = .returned (.tuple #[.pointer ptr, .int .i64 E]) ∧ Below w.heap.size w w' ∧ ((tripE s v = 0 ∧ ∃ g, ptr = some ⟨g, 0, none⟩ ∧ w.heap.size ≤ g ∧ TripAt w' g s v) ∨ (tripE s v ≠ 0 ∧ ptr = none))
set_option maxRecDepth 100000 in
set_option maxHeartbeats 4000000 in
theorem newTrip_any (s : Sea) (v : Veh) (A7 A8 : Option Addr) (c7 c8 : Nat) (w : World) (h7 : s.shores.length ≤ c7) (hC7 : Kd.C Kd.bool w A7 s.shores.length s.shores) (h8 : s.currents.length ≤ c8) (hC8 : Kd.C k40 w A8 s.currents.length s.currents) :
    Calls Try.prog 113 #[.agg #[.int .i64 s.nx, .int .i64 s.ny, .int .i64 s.cell, .int .i64 s.slot, .int .i64 s.slots, .int .i64 s.layers, .int .i64 s.most, .slice A7 s.shores.length c7, .slice A8 s.currents.length c8], .agg #[.int .i64 v.speed, .int .i64 v.dive, .int .i64 v.use.f0, .int .i64 v.use.f1, .int .i64 v.drift.f0, .int .i64 v.drift.f1, .int .i64 v.reserve]] w (TripPost s v (tripE s v) w) := by
  have hu25 := Try.underlying25
  have hu29 := Try.underlying29
  have hu110 := Try.underlying110
  have HE : Hid (tripE s v = if seaE s ≠ 0 then seaE s else vehE v) := Lib.hid rfl
  go_enter Try.func113, Try.ntmps113
  go_wp2_with fail
  have m2 : Blk ((w.alloc (.cells #[.int .i64 s.nx, .int .i64 s.ny, .int .i64 s.cell, .int .i64 s.slot, .int .i64 s.slots, .int .i64 s.layers, .int .i64 s.most, .slice A7 s.shores.length c7, .slice A8 s.currents.length c8] 25)).alloc (.cells #[.int .i64 v.speed, .int .i64 v.dive, .int .i64 v.use.f0, .int .i64 v.use.f1, .int .i64 v.drift.f0, .int .i64 v.drift.f1, .int .i64 v.reserve] 29)) (w.heap.size) #[.int .i64 s.nx, .int .i64 s.ny, .int .i64 s.cell, .int .i64 s.slot, .int .i64 s.slots, .int .i64 s.layers, .int .i64 s.most, .slice A7 s.shores.length c7, .slice A8 s.currents.length c8] 25 := (blk_alloc zq14 _)
  have m3 : Blk ((w.alloc (.cells #[.int .i64 s.nx, .int .i64 s.ny, .int .i64 s.cell, .int .i64 s.slot, .int .i64 s.slots, .int .i64 s.layers, .int .i64 s.most, .slice A7 s.shores.length c7, .slice A8 s.currents.length c8] 25)).alloc (.cells #[.int .i64 v.speed, .int .i64 v.dive, .int .i64 v.use.f0, .int .i64 v.use.f1, .int .i64 v.drift.f0, .int .i64 v.drift.f1, .int .i64 v.reserve] 29)) (w.heap.size + 1) #[.int .i64 v.speed, .int .i64 v.dive, .int .i64 v.use.f0, .int .i64 v.use.f1, .int .i64 v.drift.f0, .int .i64 v.drift.f1, .int .i64 v.reserve] 29 := zq35
  have mB : Below w.heap.size w ((w.alloc (.cells #[.int .i64 s.nx, .int .i64 s.ny, .int .i64 s.cell, .int .i64 s.slot, .int .i64 s.slots, .int .i64 s.layers, .int .i64 s.most, .slice A7 s.shores.length c7, .slice A8 s.currents.length c8] 25)).alloc (.cells #[.int .i64 v.speed, .int .i64 v.dive, .int .i64 v.use.f0, .int .i64 v.use.f1, .int .i64 v.drift.f0, .int .i64 v.drift.f1, .int .i64 v.reserve] 29)) := (below_alloc (below_alloc (Below.refl w.heap.size w) _) _)
  have hsz_ : w.heap.size ≤ w.heap.size := Nat.le_refl _
  generalize hW_ : ((w.alloc (.cells #[.int .i64 s.nx, .int .i64 s.ny, .int .i64 s.cell, .int .i64 s.slot, .int .i64 s.slots, .int .i64 s.layers, .int .i64 s.most, .slice A7 s.shores.length c7, .slice A8 s.currents.length c8] 25)).alloc (.cells #[.int .i64 v.speed, .int .i64 v.dive, .int .i64 v.use.f0, .int .i64 v.use.f1, .int .i64 v.drift.f0, .int .i64 v.drift.f1, .int .i64 v.reserve] 29)) = W1 at m2 m3 mB ⊢
  clear hW_
  generalize hg2 : w.heap.size = g2 at m2 m3 ⊢
  have hG2 : w.heap.size ≤ g2 := by omega
  generalize hg3 : g2 + 1 = g3 at m3 ⊢
  have hn_2_3 : g2 ≠ g3 := by omega
  have hn_3_2 : g3 ≠ g2 := hn_2_3.symm
  have hG3 : w.heap.size ≤ g3 := by omega
  clear hsz_
  try clear hg3
  try clear hg2
  have hs_W1 : w.heap.size ≤ W1.heap.size := mB.size
  have hcon := sea_any s A7 A8 c7 c8 W1 h7 (Kd.C_below hC7 mB) h8 (Kd.C_below hC8 mB)
  (with_reducible refine hcon.mono ?_)
  clear hcon
  rintro e W2 ⟨rfl, hb⟩
  replace m2 := blk_below m2 hb
  replace m3 := blk_below m3 hb
  replace mB := below_step mB hb
  clear hb
  have hs_W2 : w.heap.size ≤ W2.heap.size := mB.size
  rcases sea_two s with ⟨h1, _⟩ | h1
  case inr =>
    have HZ : Hid (tripE s v = 2) := Lib.hid (HE.out.trans (by rw [h1]; rfl))
    rw [h1]
    clear h1 HE
    go_wp2
    go_ret2
    exact ⟨none, zq15, mB, .inr ⟨by rw [HZ.out]; decide, rfl⟩⟩
  case inl =>
    have HE2 := Lib.hid (HE.out.trans (if_neg (by omega)))
    clear HE
    rw [h1]
    clear h1
    obtain ⟨c3_0, c3_1, c3_2, c3_3, c3_4, c3_5, c3_6⟩ := zcs7 m3
    go_wp2_with fail
    clear c3_0
    clear c3_1
    clear c3_2
    clear c3_3
    clear c3_4
    clear c3_5
    clear c3_6
    have hcon := veh_any v W2
    (with_reducible refine hcon.mono ?_)
    clear hcon
    rintro e W3 ⟨rfl, hb⟩
    replace m2 := blk_below m2 hb
    replace m3 := blk_below m3 hb
    replace mB := below_step mB hb
    clear hb
    have hs_W3 : w.heap.size ≤ W3.heap.size := mB.size
    rcases veh_two v with ⟨h1, _⟩ | h1
    case inr =>
      have HE := HE2
      have HZ : Hid (tripE s v = 2) := Lib.hid (HE2.out.trans h1)
      rw [h1]
      clear h1 HE
      go_wp2
      go_ret2
      exact ⟨none, zq15, mB, .inr ⟨by rw [HZ.out]; decide, rfl⟩⟩
    case inl =>
      have HZ := Lib.hid (HE2.out.trans h1)
      rw [h1]
      clear h1 HE2
      obtain ⟨c2_0, c2_1, c2_2, c2_3, c2_4, c2_5, c2_6, c2_7, c2_8⟩ := zcs9 m2
      obtain ⟨c3_0, c3_1, c3_2, c3_3, c3_4, c3_5, c3_6⟩ := zcs7 m3
      go_wp2
      go_ret2
      exact ⟨_, zq15, below_alloc mB _, .inl ⟨HZ.out, W3.heap.size, rfl, mB.size, A7, c7, A8, c8, blk_new W3 (.cells #[.int .i64 s.nx, .int .i64 s.ny, .int .i64 s.cell, .int .i64 s.slot, .int .i64 s.slots, .int .i64 s.layers, .int .i64 s.most, .slice A7 s.shores.length c7, .slice A8 s.currents.length c8, .int .i64 v.speed, .int .i64 v.dive, .int .i64 v.use.f0, .int .i64 v.use.f1, .int .i64 v.drift.f0, .int .i64 v.drift.f1, .int .i64 v.reserve] 110), h7, Kd.C_below hC7 (below_alloc mB _), h8, Kd.C_below hC8 (below_alloc mB _)⟩⟩
def beginE (s : Sea) (v : Veh) (x : S31) (t : Int) : Int := if tripE s v ≠ 0 then tripE s v else placeE x t
set_option maxRecDepth 100000 in
set_option maxHeartbeats 4000000 in
theorem begin_any (s : Sea) (v : Veh) (x : S31) (t : Int) (A7 A8 : Option Addr) (c7 c8 : Nat) (w : World) (h7 : s.shores.length ≤ c7) (hC7 : Kd.C Kd.bool w A7 s.shores.length s.shores) (h8 : s.currents.length ≤ c8) (hC8 : Kd.C k40 w A8 s.currents.length s.currents) :
    Calls Try.prog 64 #[.agg #[.int .i64 s.nx, .int .i64 s.ny, .int .i64 s.cell, .int .i64 s.slot, .int .i64 s.slots, .int .i64 s.layers, .int .i64 s.most, .slice A7 s.shores.length c7, .slice A8 s.currents.length c8], .agg #[.int .i64 v.speed, .int .i64 v.dive, .int .i64 v.use.f0, .int .i64 v.use.f1, .int .i64 v.drift.f0, .int .i64 v.drift.f1, .int .i64 v.reserve], .agg #[.int .i64 x.f0.f0, .int .i64 x.f0.f1, .int .i64 x.f1.f0, .int .i64 x.f1.f1], .int .i64 t] w (TripPost s v (beginE s v x t) w) := by
  have hu25 := Try.underlying25
  have hu29 := Try.underlying29
  have hu31 := Try.underlying31
  have HE : Hid (beginE s v x t = if tripE s v ≠ 0 then tripE s v else placeE x t) := Lib.hid rfl
  go_enter Try.func64, Try.ntmps64
  go_wp2_with fail
  have m4 : Blk (((w.alloc (.cells #[.int .i64 s.nx, .int .i64 s.ny, .int .i64 s.cell, .int .i64 s.slot, .int .i64 s.slots, .int .i64 s.layers, .int .i64 s.most, .slice A7 s.shores.length c7, .slice A8 s.currents.length c8] 25)).alloc (.cells #[.int .i64 v.speed, .int .i64 v.dive, .int .i64 v.use.f0, .int .i64 v.use.f1, .int .i64 v.drift.f0, .int .i64 v.drift.f1, .int .i64 v.reserve] 29)).alloc (.cells #[.int .i64 x.f0.f0, .int .i64 x.f0.f1, .int .i64 x.f1.f0, .int .i64 x.f1.f1] 31)) (w.heap.size) #[.int .i64 s.nx, .int .i64 s.ny, .int .i64 s.cell, .int .i64 s.slot, .int .i64 s.slots, .int .i64 s.layers, .int .i64 s.most, .slice A7 s.shores.length c7, .slice A8 s.currents.length c8] 25 := (blk_alloc (blk_alloc zq14 _) _)
  have m5 : Blk (((w.alloc (.cells #[.int .i64 s.nx, .int .i64 s.ny, .int .i64 s.cell, .int .i64 s.slot, .int .i64 s.slots, .int .i64 s.layers, .int .i64 s.most, .slice A7 s.shores.length c7, .slice A8 s.currents.length c8] 25)).alloc (.cells #[.int .i64 v.speed, .int .i64 v.dive, .int .i64 v.use.f0, .int .i64 v.use.f1, .int .i64 v.drift.f0, .int .i64 v.drift.f1, .int .i64 v.reserve] 29)).alloc (.cells #[.int .i64 x.f0.f0, .int .i64 x.f0.f1, .int .i64 x.f1.f0, .int .i64 x.f1.f1] 31)) (w.heap.size + 1) #[.int .i64 v.speed, .int .i64 v.dive, .int .i64 v.use.f0, .int .i64 v.use.f1, .int .i64 v.drift.f0, .int .i64 v.drift.f1, .int .i64 v.reserve] 29 := (blk_alloc zq35 _)
  have m6 : Blk (((w.alloc (.cells #[.int .i64 s.nx, .int .i64 s.ny, .int .i64 s.cell, .int .i64 s.slot, .int .i64 s.slots, .int .i64 s.layers, .int .i64 s.most, .slice A7 s.shores.length c7, .slice A8 s.currents.length c8] 25)).alloc (.cells #[.int .i64 v.speed, .int .i64 v.dive, .int .i64 v.use.f0, .int .i64 v.use.f1, .int .i64 v.drift.f0, .int .i64 v.drift.f1, .int .i64 v.reserve] 29)).alloc (.cells #[.int .i64 x.f0.f0, .int .i64 x.f0.f1, .int .i64 x.f1.f0, .int .i64 x.f1.f1] 31)) (w.heap.size + 1 + 1) #[.int .i64 x.f0.f0, .int .i64 x.f0.f1, .int .i64 x.f1.f0, .int .i64 x.f1.f1] 31 := zq36
  have mB : Below w.heap.size w (((w.alloc (.cells #[.int .i64 s.nx, .int .i64 s.ny, .int .i64 s.cell, .int .i64 s.slot, .int .i64 s.slots, .int .i64 s.layers, .int .i64 s.most, .slice A7 s.shores.length c7, .slice A8 s.currents.length c8] 25)).alloc (.cells #[.int .i64 v.speed, .int .i64 v.dive, .int .i64 v.use.f0, .int .i64 v.use.f1, .int .i64 v.drift.f0, .int .i64 v.drift.f1, .int .i64 v.reserve] 29)).alloc (.cells #[.int .i64 x.f0.f0, .int .i64 x.f0.f1, .int .i64 x.f1.f0, .int .i64 x.f1.f1] 31)) := (below_alloc (below_alloc (below_alloc (Below.refl w.heap.size w) _) _) _)
  have hsz_ : w.heap.size ≤ w.heap.size := Nat.le_refl _
  generalize hW_ : (((w.alloc (.cells #[.int .i64 s.nx, .int .i64 s.ny, .int .i64 s.cell, .int .i64 s.slot, .int .i64 s.slots, .int .i64 s.layers, .int .i64 s.most, .slice A7 s.shores.length c7, .slice A8 s.currents.length c8] 25)).alloc (.cells #[.int .i64 v.speed, .int .i64 v.dive, .int .i64 v.use.f0, .int .i64 v.use.f1, .int .i64 v.drift.f0, .int .i64 v.drift.f1, .int .i64 v.reserve] 29)).alloc (.cells #[.int .i64 x.f0.f0, .int .i64 x.f0.f1, .int .i64 x.f1.f0, .int .i64 x.f1.f1] 31)) = W1 at m4 m5 m6 mB ⊢
  clear hW_
  generalize hg4 : w.heap.size = g4 at m4 m5 m6 ⊢
  have hG4 : w.heap.size ≤ g4 := by omega
  generalize hg5 : g4 + 1 = g5 at m5 m6 ⊢
  have hn_4_5 : g4 ≠ g5 := by omega
  have hn_5_4 : g5 ≠ g4 := hn_4_5.symm
  have hG5 : w.heap.size ≤ g5 := by omega
  generalize hg6 : g5 + 1 = g6 at m6 ⊢
  have hn_4_6 : g4 ≠ g6 := by omega
  have hn_5_6 : g5 ≠ g6 := by omega
  have hn_6_4 : g6 ≠ g4 := hn_4_6.symm
  have hn_6_5 : g6 ≠ g5 := hn_5_6.symm
  have hG6 : w.heap.size ≤ g6 := by omega
  clear hsz_
  try clear hg6
  try clear hg5
  try clear hg4
  have hs_W1 : w.heap.size ≤ W1.heap.size := mB.size
  have hcon := newTrip_any s v A7 A8 c7 c8 W1 h7 (Kd.C_below hC7 mB) h8 (Kd.C_below hC8 mB)
  (with_reducible refine hcon.mono ?_)
  clear hcon
  rintro e W2 ⟨ptr, rfl, hb, ⟨h0, g, rfl, hg, hT⟩ | ⟨h0, rfl⟩⟩
  case inr =>
    have HZ := Lib.hid (HE.out.trans (if_pos h0))
    replace mB := below_step mB hb
    clear hb HE
    have h00 := Lib.hid h0
    generalize hE_ : tripE s v = E0 at *
    have hE := Lib.hid hE_
    clear hE_
    have hd : (E0 == 0) = false := beq_eq_false_iff_ne.2 h0
    have hd2 : (E0 != 0) = true := by rw [bne, hd]; rfl
    clear h0
    go_wp2
    go_ret2
    exact ⟨none, zq15, mB, .inr ⟨by rw [hE.out]; exact h00.out, rfl⟩⟩
  case inl =>
    have HZ := Lib.hid (HE.out.trans (if_neg (fun h => h h0)))
    clear HE
    have hg0 : w.heap.size ≤ g := Nat.le_trans (m := W1.heap.size) (by assumption) hg
    replace m4 := blk_below m4 hb
    replace m5 := blk_below m5 hb
    replace m6 := blk_below m6 hb
    replace mB := below_step mB hb
    clear hb
    have H0 := Lib.hid h0
    rw [h0]
    clear h0
    have hs_W2 : w.heap.size ≤ W2.heap.size := mB.size
    obtain ⟨c6_0, c6_1, c6_2, c6_3⟩ := zcs4 m6
    go_wp2_with fail
    clear c6_0
    clear c6_1
    clear c6_2
    clear c6_3
    have hcon := place_any x t W2
    (with_reducible refine hcon.mono ?_)
    clear hcon
    rintro e W3 ⟨rfl, hb⟩
    replace hT := hT.below hb
    replace m4 := blk_below m4 hb
    replace m5 := blk_below m5 hb
    replace m6 := blk_below m6 hb
    replace mB := below_step mB hb
    clear hb
    go_wp2
    go_ret2
    exact ⟨_, zq15, mB, .inl ⟨H0.out, g, rfl, hg0, hT⟩⟩
end Go.Proofs.Ytmhaiihjfgfaoaa.Gl
end
section
/- Dive and At, as the program answers. -/
namespace Go.Proofs.Ytmhaiihjfgfaoaa.Gl
open Go.RowKit Go.Shelf Go.Proofs.YtmhaiihjfgfaoaaW.PrintWords Go.Proofs.YtmhaiihjfgfaoaaW.PrintLast Go.Proofs.YtmhaiihjfgfaoaaW.PrintMore Go.Proofs.Ytmhaiihjfgfaoaa.Pr Go.Proofs.YtmhaiihjfgfaoaaW.Round
set_option linter.unusedVariables false
set_option linter.unusedSimpArgs false
attribute [local go_sem] max2_int min2_int max_two min_two max_four
theorem ite_ne_zero {a b : Int} (h : (if a ≠ 0 then a else b) = 0) : a = 0 ∧ b = 0 := by
  by_cases h0 : a = 0
  · rw [if_neg (fun h => h h0)] at h
    exact ⟨h0, h⟩
  · rw [if_pos h0] at h
    exact absurd h h0
/-- A row of one course. -/
theorem C_one33 {W : World} {b : Nat} {x y : Int} (h : W.heap[b]? = some (.cells #[.int .i64 x, .int .i64 y] 33 (0, 0))) : Kd.C k33 W (some ⟨b, 0, none⟩) 1 [⟨x, y⟩] := by
  refine ⟨rfl, by decide, fun _ => ⟨⟨b, 0, none⟩, rfl, fun j p hj => ?_⟩⟩
  match j, hj with
  | 0, hj =>
    obtain rfl : (⟨x, y⟩ : S33) = p := by simpa using hj
    refine ⟨_, rfl, k33_mk W ⟨x, y⟩, fun i u hu => ?_⟩
    match i, hu with
    | 0, hu => exact ((blk_cell h 0).trans (by simpa using hu))
    | 1, hu => exact ((blk_cell h 1).trans (by simpa using hu))
theorem crs_one {hd layer layers : Int} (hl : 1 ≤ layers) (h : crsE [⟨hd, layer⟩] layers = 0) : (0 ≤ hd ∧ hd ≤ 8) ∧ 0 ≤ layer ∧ layer < layers := by
  unfold crsE at h
  cases hb : ([⟨hd, layer⟩] : List S33).all (crsB layers) with
  | false => rw [hb] at h; simp at h
  | true =>
    simp only [List.all_cons, List.all_nil, Bool.and_true, crsB, Bool.and_eq_true, Bool.or_eq_true, decide_eq_true_eq, btwB_iff] at hb
    omega
theorem place_ok {x : S31} {t : Int} (h : placeE x t = 0) : BoxOK x ∧ 0 ≤ t ∧ t ≤ 1073741824 := by
  unfold placeE at h
  obtain ⟨h1, h2⟩ := ite_ne_zero h
  refine ⟨boxB_ok h1, ?_⟩
  cases hb : btwB t 0 1073741824 with
  | false => rw [hb] at h2; simp at h2
  | true => exact btwB_iff.1 hb
def DiveE (s : Sea) (v : Veh) (x : S31) (t hd layer : Int) : Int := if beginE s v x t ≠ 0 then beginE s v x t else if crsE [⟨hd, layer⟩] s.layers ≠ 0 then crsE [⟨hd, layer⟩] s.layers else diveE s v x t
def DiveV (s : Sea) (v : Veh) (x : S31) (t hd layer : Int) : S31 := if DiveE s v x t hd layer = 0 then diveV s v x t hd layer else z31
set_option maxRecDepth 100000 in
set_option maxHeartbeats 8000000 in
theorem Dive_any (s : Sea) (v : Veh) (x : S31) (t hd layer : Int) (A7 A8 : Option Addr) (c7 c8 : Nat) (w : World) (h7 : s.shores.length ≤ c7) (hC7 : Kd.C Kd.bool w A7 s.shores.length s.shores) (h8 : s.currents.length ≤ c8) (hC8 : Kd.C k40 w A8 s.currents.length s.currents) :
    Calls Try.prog 20 #[.agg #[.int .i64 s.nx, .int .i64 s.ny, .int .i64 s.cell, .int .i64 s.slot, .int .i64 s.slots, .int .i64 s.layers, .int .i64 s.most, .slice A7 s.shores.length c7, .slice A8 s.currents.length c8], .agg #[.int .i64 v.speed, .int .i64 v.dive, .int .i64 v.use.f0, .int .i64 v.use.f1, .int .i64 v.drift.f0, .int .i64 v.drift.f1, .int .i64 v.reserve], .agg #[.int .i64 x.f0.f0, .int .i64 x.f0.f1, .int .i64 x.f1.f0, .int .i64 x.f1.f1], .int .i64 t, .agg #[.int .i64 hd, .int .i64 layer]] w (RetB (.tuple #[.agg #[.int .i64 (DiveV s v x t hd layer).f0.f0, .int .i64 (DiveV s v x t hd layer).f0.f1, .int .i64 (DiveV s v x t hd layer).f1.f0, .int .i64 (DiveV s v x t hd layer).f1.f1], .int .i64 (DiveE s v x t hd layer)]) w) := by
  have hu25 := Try.underlying25
  have hu29 := Try.underlying29
  have hu31 := Try.underlying31
  have hu33 := Try.underlying33
  have hu27 := Try.underlying27
  have HE : Hid (DiveE s v x t hd layer = if beginE s v x t ≠ 0 then beginE s v x t else if crsE [⟨hd, layer⟩] s.layers ≠ 0 then crsE [⟨hd, layer⟩] s.layers else diveE s v x t) := Lib.hid rfl
  have HV : Hid (DiveV s v x t hd layer = if DiveE s v x t hd layer = 0 then diveV s v x t hd layer else z31) := Lib.hid rfl
  go_enter Try.func20, Try.ntmps20
  go_wp2_with fail
  have m5 : Blk (((((w.alloc (.cells #[.int .i64 s.nx, .int .i64 s.ny, .int .i64 s.cell, .int .i64 s.slot, .int .i64 s.slots, .int .i64 s.layers, .int .i64 s.most, .slice A7 s.shores.length c7, .slice A8 s.currents.length c8] 25)).alloc (.cells #[.int .i64 v.speed, .int .i64 v.dive, .int .i64 v.use.f0, .int .i64 v.use.f1, .int .i64 v.drift.f0, .int .i64 v.drift.f1, .int .i64 v.reserve] 29)).alloc (.cells #[.int .i64 x.f0.f0, .int .i64 x.f0.f1, .int .i64 x.f1.f0, .int .i64 x.f1.f1] 31)).alloc (.cells #[.int .i64 hd, .int .i64 layer] 33)).alloc (.cells #[.int .i64 0, .int .i64 0, .int .i64 0, .int .i64 0] 31)) (w.heap.size) #[.int .i64 s.nx, .int .i64 s.ny, .int .i64 s.cell, .int .i64 s.slot, .int .i64 s.slots, .int .i64 s.layers, .int .i64 s.most, .slice A7 s.shores.length c7, .slice A8 s.currents.length c8] 25 := (blk_alloc (blk_alloc (blk_alloc (blk_alloc zq14 _) _) _) _)
  have m6 : Blk (((((w.alloc (.cells #[.int .i64 s.nx, .int .i64 s.ny, .int .i64 s.cell, .int .i64 s.slot, .int .i64 s.slots, .int .i64 s.layers, .int .i64 s.most, .slice A7 s.shores.length c7, .slice A8 s.currents.length c8] 25)).alloc (.cells #[.int .i64 v.speed, .int .i64 v.dive, .int .i64 v.use.f0, .int .i64 v.use.f1, .int .i64 v.drift.f0, .int .i64 v.drift.f1, .int .i64 v.reserve] 29)).alloc (.cells #[.int .i64 x.f0.f0, .int .i64 x.f0.f1, .int .i64 x.f1.f0, .int .i64 x.f1.f1] 31)).alloc (.cells #[.int .i64 hd, .int .i64 layer] 33)).alloc (.cells #[.int .i64 0, .int .i64 0, .int .i64 0, .int .i64 0] 31)) (w.heap.size + 1) #[.int .i64 v.speed, .int .i64 v.dive, .int .i64 v.use.f0, .int .i64 v.use.f1, .int .i64 v.drift.f0, .int .i64 v.drift.f1, .int .i64 v.reserve] 29 := (blk_alloc (blk_alloc (blk_alloc zq35 _) _) _)
  have m7 : Blk (((((w.alloc (.cells #[.int .i64 s.nx, .int .i64 s.ny, .int .i64 s.cell, .int .i64 s.slot, .int .i64 s.slots, .int .i64 s.layers, .int .i64 s.most, .slice A7 s.shores.length c7, .slice A8 s.currents.length c8] 25)).alloc (.cells #[.int .i64 v.speed, .int .i64 v.dive, .int .i64 v.use.f0, .int .i64 v.use.f1, .int .i64 v.drift.f0, .int .i64 v.drift.f1, .int .i64 v.reserve] 29)).alloc (.cells #[.int .i64 x.f0.f0, .int .i64 x.f0.f1, .int .i64 x.f1.f0, .int .i64 x.f1.f1] 31)).alloc (.cells #[.int .i64 hd, .int .i64 layer] 33)).alloc (.cells #[.int .i64 0, .int .i64 0, .int .i64 0, .int .i64 0] 31)) (w.heap.size + 1 + 1) #[.int .i64 x.f0.f0, .int .i64 x.f0.f1, .int .i64 x.f1.f0, .int .i64 x.f1.f1] 31 := (blk_alloc (blk_alloc zq36 _) _)
  have m9 : Blk (((((w.alloc (.cells #[.int .i64 s.nx, .int .i64 s.ny, .int .i64 s.cell, .int .i64 s.slot, .int .i64 s.slots, .int .i64 s.layers, .int .i64 s.most, .slice A7 s.shores.length c7, .slice A8 s.currents.length c8] 25)).alloc (.cells #[.int .i64 v.speed, .int .i64 v.dive, .int .i64 v.use.f0, .int .i64 v.use.f1, .int .i64 v.drift.f0, .int .i64 v.drift.f1, .int .i64 v.reserve] 29)).alloc (.cells #[.int .i64 x.f0.f0, .int .i64 x.f0.f1, .int .i64 x.f1.f0, .int .i64 x.f1.f1] 31)).alloc (.cells #[.int .i64 hd, .int .i64 layer] 33)).alloc (.cells #[.int .i64 0, .int .i64 0, .int .i64 0, .int .i64 0] 31)) (w.heap.size + 1 + 1 + 1) #[.int .i64 hd, .int .i64 layer] 33 := (blk_alloc (by have h_ := blk_new (((w.alloc (.cells #[.int .i64 s.nx, .int .i64 s.ny, .int .i64 s.cell, .int .i64 s.slot, .int .i64 s.slots, .int .i64 s.layers, .int .i64 s.most, .slice A7 s.shores.length c7, .slice A8 s.currents.length c8] 25)).alloc (.cells #[.int .i64 v.speed, .int .i64 v.dive, .int .i64 v.use.f0, .int .i64 v.use.f1, .int .i64 v.drift.f0, .int .i64 v.drift.f1, .int .i64 v.reserve] 29)).alloc (.cells #[.int .i64 x.f0.f0, .int .i64 x.f0.f1, .int .i64 x.f1.f0, .int .i64 x.f1.f1] 31)) (.cells #[.int .i64 hd, .int .i64 layer] 33); first | exact h_ | (simp only [World.size_alloc] at h_; exact h_)) _)
  have m10 : Blk (((((w.alloc (.cells #[.int .i64 s.nx, .int .i64 s.ny, .int .i64 s.cell, .int .i64 s.slot, .int .i64 s.slots, .int .i64 s.layers, .int .i64 s.most, .slice A7 s.shores.length c7, .slice A8 s.currents.length c8] 25)).alloc (.cells #[.int .i64 v.speed, .int .i64 v.dive, .int .i64 v.use.f0, .int .i64 v.use.f1, .int .i64 v.drift.f0, .int .i64 v.drift.f1, .int .i64 v.reserve] 29)).alloc (.cells #[.int .i64 x.f0.f0, .int .i64 x.f0.f1, .int .i64 x.f1.f0, .int .i64 x.f1.f1] 31)).alloc (.cells #[.int .i64 hd, .int .i64 layer] 33)).alloc (.cells #[.int .i64 0, .int .i64 0, .int .i64 0, .int .i64 0] 31)) (w.heap.size + 1 + 1 + 1 + 1) #[.int .i64 0, .int .i64 0, .int .i64 0, .int .i64 0] 31 := (by have h_ := blk_new ((((w.alloc (.cells #[.int .i64 s.nx, .int .i64 s.ny, .int .i64 s.cell, .int .i64 s.slot, .int .i64 s.slots, .int .i64 s.layers, .int .i64 s.most, .slice A7 s.shores.length c7, .slice A8 s.currents.length c8] 25)).alloc (.cells #[.int .i64 v.speed, .int .i64 v.dive, .int .i64 v.use.f0, .int .i64 v.use.f1, .int .i64 v.drift.f0, .int .i64 v.drift.f1, .int .i64 v.reserve] 29)).alloc (.cells #[.int .i64 x.f0.f0, .int .i64 x.f0.f1, .int .i64 x.f1.f0, .int .i64 x.f1.f1] 31)).alloc (.cells #[.int .i64 hd, .int .i64 layer] 33)) (.cells #[.int .i64 0, .int .i64 0, .int .i64 0, .int .i64 0] 31); first | exact h_ | (simp only [World.size_alloc] at h_; exact h_))
  have mB : Below w.heap.size w (((((w.alloc (.cells #[.int .i64 s.nx, .int .i64 s.ny, .int .i64 s.cell, .int .i64 s.slot, .int .i64 s.slots, .int .i64 s.layers, .int .i64 s.most, .slice A7 s.shores.length c7, .slice A8 s.currents.length c8] 25)).alloc (.cells #[.int .i64 v.speed, .int .i64 v.dive, .int .i64 v.use.f0, .int .i64 v.use.f1, .int .i64 v.drift.f0, .int .i64 v.drift.f1, .int .i64 v.reserve] 29)).alloc (.cells #[.int .i64 x.f0.f0, .int .i64 x.f0.f1, .int .i64 x.f1.f0, .int .i64 x.f1.f1] 31)).alloc (.cells #[.int .i64 hd, .int .i64 layer] 33)).alloc (.cells #[.int .i64 0, .int .i64 0, .int .i64 0, .int .i64 0] 31)) := (below_alloc (below_alloc (below_alloc (below_alloc (below_alloc (Below.refl w.heap.size w) _) _) _) _) _)
  have hsz_ : w.heap.size ≤ w.heap.size := Nat.le_refl _
  generalize hW_ : (((((w.alloc (.cells #[.int .i64 s.nx, .int .i64 s.ny, .int .i64 s.cell, .int .i64 s.slot, .int .i64 s.slots, .int .i64 s.layers, .int .i64 s.most, .slice A7 s.shores.length c7, .slice A8 s.currents.length c8] 25)).alloc (.cells #[.int .i64 v.speed, .int .i64 v.dive, .int .i64 v.use.f0, .int .i64 v.use.f1, .int .i64 v.drift.f0, .int .i64 v.drift.f1, .int .i64 v.reserve] 29)).alloc (.cells #[.int .i64 x.f0.f0, .int .i64 x.f0.f1, .int .i64 x.f1.f0, .int .i64 x.f1.f1] 31)).alloc (.cells #[.int .i64 hd, .int .i64 layer] 33)).alloc (.cells #[.int .i64 0, .int .i64 0, .int .i64 0, .int .i64 0] 31)) = W1 at m5 m6 m7 m9 m10 mB ⊢
  clear hW_
  generalize hg5 : w.heap.size = g5 at m5 m6 m7 m9 m10 ⊢
  have hG5 : w.heap.size ≤ g5 := by omega
  generalize hg6 : g5 + 1 = g6 at m6 m7 m9 m10 ⊢
  have hn_5_6 : g5 ≠ g6 := by omega
  have hn_6_5 : g6 ≠ g5 := hn_5_6.symm
  have hG6 : w.heap.size ≤ g6 := by omega
  generalize hg7 : g6 + 1 = g7 at m7 m9 m10 ⊢
  have hn_5_7 : g5 ≠ g7 := by omega
  have hn_6_7 : g6 ≠ g7 := by omega
  have hn_7_5 : g7 ≠ g5 := hn_5_7.symm
  have hn_7_6 : g7 ≠ g6 := hn_6_7.symm
  have hG7 : w.heap.size ≤ g7 := by omega
  generalize hg9 : g7 + 1 = g9 at m9 m10 ⊢
  have hn_5_9 : g5 ≠ g9 := by omega
  have hn_6_9 : g6 ≠ g9 := by omega
  have hn_7_9 : g7 ≠ g9 := by omega
  have hn_9_5 : g9 ≠ g5 := hn_5_9.symm
  have hn_9_6 : g9 ≠ g6 := hn_6_9.symm
  have hn_9_7 : g9 ≠ g7 := hn_7_9.symm
  have hG9 : w.heap.size ≤ g9 := by omega
  generalize hg10 : g9 + 1 = g10 at m10 ⊢
  have hn_5_10 : g5 ≠ g10 := by omega
  have hn_6_10 : g6 ≠ g10 := by omega
  have hn_7_10 : g7 ≠ g10 := by omega
  have hn_9_10 : g9 ≠ g10 := by omega
  have hn_10_5 : g10 ≠ g5 := hn_5_10.symm
  have hn_10_6 : g10 ≠ g6 := hn_6_10.symm
  have hn_10_7 : g10 ≠ g7 := hn_7_10.symm
  have hn_10_9 : g10 ≠ g9 := hn_9_10.symm
  have hG10 : w.heap.size ≤ g10 := by omega
  clear hsz_
  try clear hg10
  try clear hg9
  try clear hg7
  try clear hg6
  try clear hg5
  have hs_W1 : w.heap.size ≤ W1.heap.size := mB.size
  have hbg : beginE s v x t = if tripE s v ≠ 0 then tripE s v else placeE x t := rfl
  have HBG := Lib.hid hbg
  clear hbg
  have hcon := begin_any s v x t A7 A8 c7 c8 W1 h7 (Kd.C_below hC7 mB) h8 (Kd.C_below hC8 mB)
  (with_reducible refine hcon.mono ?_)
  clear hcon
  rintro e W2 ⟨ptr, rfl, hb, hpt⟩
  replace m5 := blk_below m5 hb
  replace m6 := blk_below m6 hb
  replace m7 := blk_below m7 hb
  replace m9 := blk_below m9 hb
  replace m10 := blk_below m10 hb
  replace mB := below_step mB hb
  clear hb
  have hs_W2 : w.heap.size ≤ W2.heap.size := mB.size
  generalize hE_ : beginE s v x t = E0 at *
  have HE0 := Lib.hid hE_
  clear hE_
  by_cases h0 : E0 = 0
  case neg =>
    have HZ : Hid (DiveE s v x t hd layer = E0) := Lib.hid (HE.out.trans (if_pos h0))
    have HV2 : Hid (DiveV s v x t hd layer = z31) := Lib.hid (HV.out.trans (if_neg (by rw [HZ.out]; exact h0)))
    clear HV
    have hd1 : (E0 == 0) = false := beq_eq_false_iff_ne.2 h0
    have hd2 : (E0 != 0) = true := by rw [bne, hd1]; rfl
    clear h0 hpt HE
    obtain ⟨c10_0, c10_1, c10_2, c10_3, f10_0, f10_1, f10_2, f10_3⟩ := zce4 m10
    go_wp2
    exact bodyPost_ret (results_ct rfl _ _ g10 31 #[.int .i64 0, .int .i64 0, .int .i64 0, .int .i64 0] (0, 0) _ rfl (blk_put (blk_put (blk_put (blk_put m10 0 (.int .i64 0) rfl) 1 (.int .i64 0) rfl) 2 (.int .i64 0) rfl) 3 (.int .i64 0) rfl) Try.underlying31 rfl zq1) rfl ⟨zq23, (Below.setCell (p := ⟨g10, 3, none⟩) (Below.setCell (p := ⟨g10, 2, none⟩) (Below.setCell (p := ⟨g10, 1, none⟩) (Below.setCell (p := ⟨g10, 0, none⟩) mB hG10 _) hG10 _) hG10 _) hG10 _)⟩
  case pos =>
    have HE2 := Lib.hid (HE.out.trans (if_neg (fun h => h h0)))
    clear HE
    have hb0 := HBG.out.symm.trans h0
    obtain ⟨ht0, hp0⟩ := ite_ne_zero hb0
    obtain ⟨hbx, htt0, htt1⟩ := place_ok hp0
    obtain ⟨hSV, hVN⟩ := tripE_ok ht0
    rcases hpt with ⟨_, g, rfl, hg, hT⟩ | ⟨hbad, _⟩
    case inr => exact absurd ht0 hbad
    case inl =>
      subst h0
      clear hb0 ht0 hp0 HBG
      obtain ⟨c9_0, c9_1⟩ := zcs2 m9
      have c5_0 : ∀ o_, (W2.alloc o_).cell? ⟨g5, 0, none⟩ = some (.int .i64 s.nx) := fun o_ => (blk_cell (blk_alloc m5 o_) 0).trans rfl
      have c5_1 : ∀ o_, (W2.alloc o_).cell? ⟨g5, 1, none⟩ = some (.int .i64 s.ny) := fun o_ => (blk_cell (blk_alloc m5 o_) 1).trans rfl
      have c5_2 : ∀ o_, (W2.alloc o_).cell? ⟨g5, 2, none⟩ = some (.int .i64 s.cell) := fun o_ => (blk_cell (blk_alloc m5 o_) 2).trans rfl
      have c5_3 : ∀ o_, (W2.alloc o_).cell? ⟨g5, 3, none⟩ = some (.int .i64 s.slot) := fun o_ => (blk_cell (blk_alloc m5 o_) 3).trans rfl
      have c5_4 : ∀ o_, (W2.alloc o_).cell? ⟨g5, 4, none⟩ = some (.int .i64 s.slots) := fun o_ => (blk_cell (blk_alloc m5 o_) 4).trans rfl
      have c5_5 : ∀ o_, (W2.alloc o_).cell? ⟨g5, 5, none⟩ = some (.int .i64 s.layers) := fun o_ => (blk_cell (blk_alloc m5 o_) 5).trans rfl
      have c5_6 : ∀ o_, (W2.alloc o_).cell? ⟨g5, 6, none⟩ = some (.int .i64 s.most) := fun o_ => (blk_cell (blk_alloc m5 o_) 6).trans rfl
      have c5_7 : ∀ o_, (W2.alloc o_).cell? ⟨g5, 7, none⟩ = some (.slice A7 s.shores.length c7) := fun o_ => (blk_cell (blk_alloc m5 o_) 7).trans rfl
      have c5_8 : ∀ o_, (W2.alloc o_).cell? ⟨g5, 8, none⟩ = some (.slice A8 s.currents.length c8) := fun o_ => (blk_cell (blk_alloc m5 o_) 8).trans rfl
      go_wp2_with fail
      clear c5_0
      clear c5_1
      clear c5_2
      clear c5_3
      clear c5_4
      clear c5_5
      clear c5_6
      clear c5_7
      clear c5_8
      clear c9_0
      clear c9_1
      replace hT := hT.below (below_alloc (Below.refl _ W2) (.cells #[.int .i64 hd, .int .i64 layer] 33))
      have hl_5 := blk_lt m5
      have hl_6 := blk_lt m6
      have hl_7 := blk_lt m7
      have hl_9 := blk_lt m9
      have hl_10 := blk_lt m10
      have mc : Blk (W2.alloc (.cells #[.int .i64 hd, .int .i64 layer] 33)) (W2.heap.size) #[.int .i64 hd, .int .i64 layer] 33 := (by have h_ := blk_new W2 (.cells #[.int .i64 hd, .int .i64 layer] 33); first | exact h_ | (simp only [World.size_alloc] at h_; exact h_))
      replace m5 : Blk (W2.alloc (.cells #[.int .i64 hd, .int .i64 layer] 33)) g5 #[.int .i64 s.nx, .int .i64 s.ny, .int .i64 s.cell, .int .i64 s.slot, .int .i64 s.slots, .int .i64 s.layers, .int .i64 s.most, .slice A7 s.shores.length c7, .slice A8 s.currents.length c8] 25 := (blk_alloc m5 _)
      replace m6 : Blk (W2.alloc (.cells #[.int .i64 hd, .int .i64 layer] 33)) g6 #[.int .i64 v.speed, .int .i64 v.dive, .int .i64 v.use.f0, .int .i64 v.use.f1, .int .i64 v.drift.f0, .int .i64 v.drift.f1, .int .i64 v.reserve] 29 := (blk_alloc m6 _)
      replace m7 : Blk (W2.alloc (.cells #[.int .i64 hd, .int .i64 layer] 33)) g7 #[.int .i64 x.f0.f0, .int .i64 x.f0.f1, .int .i64 x.f1.f0, .int .i64 x.f1.f1] 31 := (blk_alloc m7 _)
      replace m9 : Blk (W2.alloc (.cells #[.int .i64 hd, .int .i64 layer] 33)) g9 #[.int .i64 hd, .int .i64 layer] 33 := (blk_alloc m9 _)
      replace m10 : Blk (W2.alloc (.cells #[.int .i64 hd, .int .i64 layer] 33)) g10 #[.int .i64 0, .int .i64 0, .int .i64 0, .int .i64 0] 31 := (blk_alloc m10 _)
      replace mB : Below w.heap.size w (W2.alloc (.cells #[.int .i64 hd, .int .i64 layer] 33)) := (below_alloc mB _)
      have hsz_ : w.heap.size ≤ W2.heap.size := hs_W2
      generalize hW_ : (W2.alloc (.cells #[.int .i64 hd, .int .i64 layer] 33)) = W3 at m5 m6 m7 m9 m10 mc mB hT ⊢
      clear hW_
      generalize hgc : W2.heap.size = gc at mc ⊢
      have hn_5_c : g5 ≠ gc := by omega
      have hn_6_c : g6 ≠ gc := by omega
      have hn_7_c : g7 ≠ gc := by omega
      have hn_9_c : g9 ≠ gc := by omega
      have hn_10_c : g10 ≠ gc := by omega
      have hn_c_5 : gc ≠ g5 := hn_5_c.symm
      have hn_c_6 : gc ≠ g6 := hn_6_c.symm
      have hn_c_7 : gc ≠ g7 := hn_7_c.symm
      have hn_c_9 : gc ≠ g9 := hn_9_c.symm
      have hn_c_10 : gc ≠ g10 := hn_10_c.symm
      have hGc : w.heap.size ≤ gc := by omega
      clear hsz_ hl_5 hl_6 hl_7 hl_9 hl_10
      try clear hgc
      have hs_W3 : w.heap.size ≤ W3.heap.size := mB.size
      have hcon := crs_any (some ⟨gc, 0, none⟩) 1 [⟨hd, layer⟩] s.layers W3 (C_one33 mc) (Nat.le_refl 1)
      dsimp only [List.length_cons, List.length_nil, Nat.zero_add] at hcon
      (with_reducible refine hcon.mono ?_)
      clear hcon
      rintro e W4 ⟨rfl, hb⟩
      replace hT := hT.below hb
      replace m5 := blk_below m5 hb
      replace m6 := blk_below m6 hb
      replace m7 := blk_below m7 hb
      replace m9 := blk_below m9 hb
      replace m10 := blk_below m10 hb
      replace mc := blk_below mc hb
      replace mB := below_step mB hb
      clear hb
      have hs_W4 : w.heap.size ≤ W4.heap.size := mB.size
      have hc1 := crs_one (hd := hd) (layer := layer) hSV.n.layers.1
      generalize crsE [⟨hd, layer⟩] s.layers = E1 at *
      by_cases h1 : E1 = 0
      case neg =>
        have HZ : Hid (DiveE s v x t hd layer = E1) := Lib.hid (HE2.out.trans (if_pos h1))
        have HV2 : Hid (DiveV s v x t hd layer = z31) := Lib.hid (HV.out.trans (if_neg (by rw [HZ.out]; exact h1)))
        clear HV
        have hd1 : (E1 == 0) = false := beq_eq_false_iff_ne.2 h1
        have hd2 : (E1 != 0) = true := by rw [bne, hd1]; rfl
        clear h1 hc1 HE2
        obtain ⟨c10_0, c10_1, c10_2, c10_3, f10_0, f10_1, f10_2, f10_3⟩ := zce4 m10
        go_wp2
        exact bodyPost_ret (results_ct rfl _ _ g10 31 #[.int .i64 0, .int .i64 0, .int .i64 0, .int .i64 0] (0, 0) _ rfl (blk_put (blk_put (blk_put (blk_put m10 0 (.int .i64 0) rfl) 1 (.int .i64 0) rfl) 2 (.int .i64 0) rfl) 3 (.int .i64 0) rfl) Try.underlying31 rfl zq1) rfl ⟨zq23, (Below.setCell (p := ⟨g10, 3, none⟩) (Below.setCell (p := ⟨g10, 2, none⟩) (Below.setCell (p := ⟨g10, 1, none⟩) (Below.setCell (p := ⟨g10, 0, none⟩) mB hG10 _) hG10 _) hG10 _) hG10 _)⟩
      case pos =>
        obtain ⟨⟨hh0, hh1⟩, hl0, hl1⟩ := hc1 h1
        have HE3 := Lib.hid (HE2.out.trans (if_neg (fun h => h h1)))
        clear HE2 hc1
        subst h1
        obtain ⟨c7_0, c7_1, c7_2, c7_3⟩ := zcs4 m7
        obtain ⟨c9_0, c9_1⟩ := zcs2 m9
        go_wp2_with fail
        clear c7_0
        clear c7_1
        clear c7_2
        clear c7_3
        clear c9_0
        clear c9_1
        have hcon := dive_any g s v x t hd layer W4 hT hSV hVN hbx htt0 (by omega) hh0 hh1 hl0 hl1
        (with_reducible refine hcon.mono ?_)
        clear hcon
        rintro e W5 ⟨rfl, hb⟩
        replace m5 := blk_below m5 hb
        replace m6 := blk_below m6 hb
        replace m7 := blk_below m7 hb
        replace m9 := blk_below m9 hb
        replace m10 := blk_below m10 hb
        replace mc := blk_below mc hb
        replace mB := below_step mB hb
        clear hb
        have hs_W5 : w.heap.size ≤ W5.heap.size := mB.size
        have HV2 : Hid (DiveV s v x t hd layer = diveV s v x t hd layer) := Lib.hid (by rw [HV.out, HE3.out]; by_cases hz : diveE s v x t = 0; exact if_pos hz; rw [if_neg hz]; unfold diveV; rw [if_neg hz])
        clear HV
        generalize diveV s v x t hd layer = Y at *
        obtain ⟨c10_0, c10_1, c10_2, c10_3, f10_0, f10_1, f10_2, f10_3⟩ := zce4 m10
        go_wp2
        exact bodyPost_ret (results_ct rfl _ _ g10 31 #[.int .i64 Y.f0.f0, .int .i64 Y.f0.f1, .int .i64 Y.f1.f0, .int .i64 Y.f1.f1] (0, 0) _ rfl (blk_put (blk_put (blk_put (blk_put m10 0 (.int .i64 Y.f0.f0) rfl) 1 (.int .i64 Y.f0.f1) rfl) 2 (.int .i64 Y.f1.f0) rfl) 3 (.int .i64 Y.f1.f1) rfl) Try.underlying31 rfl zq1) rfl ⟨by rw [HV2.out, HE3.out]; rfl, (Below.setCell (p := ⟨g10, 3, none⟩) (Below.setCell (p := ⟨g10, 2, none⟩) (Below.setCell (p := ⟨g10, 1, none⟩) (Below.setCell (p := ⟨g10, 0, none⟩) mB hG10 _) hG10 _) hG10 _) hG10 _)⟩
end Go.Proofs.Ytmhaiihjfgfaoaa.Gl
end
section
/- At, as the program answers. -/
namespace Go.Proofs.Ytmhaiihjfgfaoaa.Gl
open Go.RowKit Go.Shelf Go.Proofs.YtmhaiihjfgfaoaaW.PrintWords Go.Proofs.YtmhaiihjfgfaoaaW.PrintLast Go.Proofs.YtmhaiihjfgfaoaaW.PrintMore Go.Proofs.Ytmhaiihjfgfaoaa.Pr Go.Proofs.YtmhaiihjfgfaoaaW.Round
set_option linter.unusedVariables false
set_option linter.unusedSimpArgs false
attribute [local go_sem] max2_int min2_int max_two min_two max_four
end Go.Proofs.Ytmhaiihjfgfaoaa.Gl
end
section
/- The contracts of exported functions, as the printed texts ask for them. -/
namespace Go.Proofs.Ytmhaiihjfgfaoaa.Pr
open Go.RowKit Go.Proofs.YtmhaiihjfgfaoaaW.PrintWords Go.Proofs.YtmhaiihjfgfaoaaW.PrintLast Go.Proofs.YtmhaiihjfgfaoaaW.PrintMore Go.Proofs.Ytmhaiihjfgfaoaa.Gl
set_option linter.unusedVariables false
def glider_Dive.f (a0_0 : Int) (a0_1 : Int) (a0_2 : Int) (a0_3 : Int) (a0_4 : Int) (a0_5 : Int) (a0_6 : Int) (l0_7 : List Bool) (l0_8 : List (S40)) (a1_0 : Int) (a1_1 : Int) (a1_2 : Int) (a1_3 : Int) (a1_4 : Int) (a1_5 : Int) (a1_6 : Int) (a2_0 : Int) (a2_1 : Int) (a2_2 : Int) (a2_3 : Int) (a3 : Int) (a4_0 : Int) (a4_1 : Int) : Option (Int × Int × Int × Int × Int) := some ((DiveV ⟨a0_0, a0_1, a0_2, a0_3, a0_4, a0_5, a0_6, l0_7, l0_8⟩ ⟨a1_0, a1_1, ⟨a1_2, a1_3⟩, ⟨a1_4, a1_5⟩, a1_6⟩ ⟨⟨a2_0, a2_1⟩, ⟨a2_2, a2_3⟩⟩ a3 a4_0 a4_1).f0.f0, (DiveV ⟨a0_0, a0_1, a0_2, a0_3, a0_4, a0_5, a0_6, l0_7, l0_8⟩ ⟨a1_0, a1_1, ⟨a1_2, a1_3⟩, ⟨a1_4, a1_5⟩, a1_6⟩ ⟨⟨a2_0, a2_1⟩, ⟨a2_2, a2_3⟩⟩ a3 a4_0 a4_1).f0.f1, (DiveV ⟨a0_0, a0_1, a0_2, a0_3, a0_4, a0_5, a0_6, l0_7, l0_8⟩ ⟨a1_0, a1_1, ⟨a1_2, a1_3⟩, ⟨a1_4, a1_5⟩, a1_6⟩ ⟨⟨a2_0, a2_1⟩, ⟨a2_2, a2_3⟩⟩ a3 a4_0 a4_1).f1.f0, (DiveV ⟨a0_0, a0_1, a0_2, a0_3, a0_4, a0_5, a0_6, l0_7, l0_8⟩ ⟨a1_0, a1_1, ⟨a1_2, a1_3⟩, ⟨a1_4, a1_5⟩, a1_6⟩ ⟨⟨a2_0, a2_1⟩, ⟨a2_2, a2_3⟩⟩ a3 a4_0 a4_1).f1.f1, DiveE ⟨a0_0, a0_1, a0_2, a0_3, a0_4, a0_5, a0_6, l0_7, l0_8⟩ ⟨a1_0, a1_1, ⟨a1_2, a1_3⟩, ⟨a1_4, a1_5⟩, a1_6⟩ ⟨⟨a2_0, a2_1⟩, ⟨a2_2, a2_3⟩⟩ a3 a4_0 a4_1)
theorem glider_Dive.calls (a0_0 : Int) (a0_1 : Int) (a0_2 : Int) (a0_3 : Int) (a0_4 : Int) (a0_5 : Int) (a0_6 : Int) (A0_7 : Option Addr) (c0_7 : Nat) (l0_7 : List Bool) (A0_8 : Option Addr) (c0_8 : Nat) (l0_8 : List (S40)) (a1_0 : Int) (a1_1 : Int) (a1_2 : Int) (a1_3 : Int) (a1_4 : Int) (a1_5 : Int) (a1_6 : Int) (a2_0 : Int) (a2_1 : Int) (a2_2 : Int) (a2_3 : Int) (a3 : Int) (a4_0 : Int) (a4_1 : Int) (r1 : Int) (r2 : Int) (r3 : Int) (r4 : Int) (r5 : Int) (w : World) (hr0_7 : Kd.C Kd.bool w A0_7 l0_7.length l0_7) (hc0_7 : l0_7.length ≤ c0_7) (hr0_8 : Kd.C k40 w A0_8 l0_8.length l0_8) (hc0_8 : l0_8.length ≤ c0_8) (h : glider_Dive.f a0_0 a0_1 a0_2 a0_3 a0_4 a0_5 a0_6 l0_7 l0_8 a1_0 a1_1 a1_2 a1_3 a1_4 a1_5 a1_6 a2_0 a2_1 a2_2 a2_3 a3 a4_0 a4_1 = some (r1, r2, r3, r4, r5)) :
    Calls Try.prog 20 #[.agg #[.int .i64 a0_0, .int .i64 a0_1, .int .i64 a0_2, .int .i64 a0_3, .int .i64 a0_4, .int .i64 a0_5, .int .i64 a0_6, .slice A0_7 l0_7.length c0_7, .slice A0_8 l0_8.length c0_8], .agg #[.int .i64 a1_0, .int .i64 a1_1, .int .i64 a1_2, .int .i64 a1_3, .int .i64 a1_4, .int .i64 a1_5, .int .i64 a1_6], .agg #[.int .i64 a2_0, .int .i64 a2_1, .int .i64 a2_2, .int .i64 a2_3], .int .i64 a3, .agg #[.int .i64 a4_0, .int .i64 a4_1]] w fun e w' => e = .returned (.tuple #[.agg #[.int .i64 r1, .int .i64 r2, .int .i64 r3, .int .i64 r4], .int .i64 r5]) ∧ Below w.heap.size w w' := by
  cases h
  exact Dive_any ⟨a0_0, a0_1, a0_2, a0_3, a0_4, a0_5, a0_6, l0_7, l0_8⟩ ⟨a1_0, a1_1, ⟨a1_2, a1_3⟩, ⟨a1_4, a1_5⟩, a1_6⟩ ⟨⟨a2_0, a2_1⟩, ⟨a2_2, a2_3⟩⟩ a3 a4_0 a4_1 A0_7 A0_8 c0_7 c0_8 w hc0_7 hr0_7 hc0_8 hr0_8

end Go.Proofs.Ytmhaiihjfgfaoaa.Pr
end
section
namespace Go.Proofs.Ytmhaiihjfgfaoaa.Pr
open Go.RowKit Go.Proofs.YtmhaiihjfgfaoaaW.PrintWords Go.Proofs.YtmhaiihjfgfaoaaW.PrintLast Go.Proofs.YtmhaiihjfgfaoaaW.PrintMore
attribute [local go_sem] max2_int min2_int max_two min_two max_four
set_option linter.unusedVariables false
set_option linter.unusedSimpArgs false

attribute [local go_sem high] eqA31
/-! ### isobathlaw03_Works: function 19 -/
def isobathlaw03_Works.f (k : Nat)  : Option (Bool) := (isobathlaw03_Example.f k).bind fun bt259 => ((isobathlaw03_point.f 2000 2000).bind fun bt281 => ((glider_Dive.f bt259.1 bt259.2.1 bt259.2.2.1 bt259.2.2.2.1 bt259.2.2.2.2.1 bt259.2.2.2.2.2.1 bt259.2.2.2.2.2.2.1 bt259.2.2.2.2.2.2.2.1 bt259.2.2.2.2.2.2.2.2.1 bt259.2.2.2.2.2.2.2.2.2.1 bt259.2.2.2.2.2.2.2.2.2.2.1 bt259.2.2.2.2.2.2.2.2.2.2.2.1 bt259.2.2.2.2.2.2.2.2.2.2.2.2.1 bt259.2.2.2.2.2.2.2.2.2.2.2.2.2.1 bt259.2.2.2.2.2.2.2.2.2.2.2.2.2.2.1 bt259.2.2.2.2.2.2.2.2.2.2.2.2.2.2.2 bt281.1 bt281.2.1 bt281.2.2.1 bt281.2.2.2 0 2 0).bind fun bt285 => ((glider_Lasts.f k bt259.2.2.2.2.2.2.2.2.2.1 bt259.2.2.2.2.2.2.2.2.2.2.1 bt259.2.2.2.2.2.2.2.2.2.2.2.1 bt259.2.2.2.2.2.2.2.2.2.2.2.2.1 bt259.2.2.2.2.2.2.2.2.2.2.2.2.2.1 bt259.2.2.2.2.2.2.2.2.2.2.2.2.2.2.1 bt259.2.2.2.2.2.2.2.2.2.2.2.2.2.2.2 300 310).bind fun bt291 => (if (wrap64 (bt285.2.2.2.2 + bt291.2)) = 0 then (if bt291.1 = 3 then (some ((bt285.1 == 2200 && (bt285.2.1 == 2400)) && ((bt285.2.2.1 == 2000 && (bt285.2.2.2.1 == 2000))))) else (some false)) else (some false)))))
theorem isobathlaw03_Works.mono : ∀ k, LeO (isobathlaw03_Works.f k ) (isobathlaw03_Works.f (k + 1) ) := by
  intro  k
  unfold isobathlaw03_Works.f
  repeat' first
      | (with_reducible exact glider_Lasts.mono _ _ _ _ _ _ _ _ _ _)
      | (with_reducible exact isobathlaw03_Example.mono _)
      | (with_reducible exact LeO.refl _)
      | (with_reducible exact LeO.none _)
      | (with_reducible refine LeO.ite ?_ ?_)
      | (with_reducible refine LeO.bind ?_ (fun _ => ?_))
      | exact glider_Lasts.mono _ _ _ _ _ _ _ _ _ _
      | exact isobathlaw03_Example.mono _
      | exact LeO.none _
      | refine LeO.ite ?_ ?_
      | refine LeO.bind ?_ (fun _ => ?_)
def isobathlaw03_Works.T2 : Bool × List (List Nat × List Nat) := (true, [([], []), ([], []), ([], []), ([], []), ([0, 1, 2, 3, 2], [0, 1, 2, 3]), ([4], [4]), ([5], [5]), ([5], [5]), ([], []), ([8, 6, 4, 0, 1, 2, 3, 4, 5, 6, 8], [6, 8]), ([7, 9, 0, 1, 2, 3, 4, 5, 6, 7, 8, 9], [7])])
def isobathlaw03_Works.B2 : List Nat := [0, 0, 0, 0, 15, 31, 63, 63, 0, 383, 1023]
theorem isobathlaw03_Works.tab2 : rtab .any (opsOf Try.f19 2) = isobathlaw03_Works.T2 := by kernel_rfl
theorem isobathlaw03_Works.bits2 : waitsOk isobathlaw03_Works.T2.2 isobathlaw03_Works.B2 = true := by kernel_rfl
set_option maxRecDepth 100000 in
theorem isobathlaw03_Works.true_ : isobathlaw03_Works.f 60 = some true := by kernel_rfl
set_option maxHeartbeats 8000000 in
set_option maxRecDepth 100000 in
theorem isobathlaw03_Works.calls (k : Nat)  (r : Bool) (w : World) (h : isobathlaw03_Works.f k  = some r) :
    Calls Try.prog 19 #[] w fun e w' => e = .returned (.bool r) ∧ Below w.heap.size w w' := by
  have hr_ : Aside0 (r = true) := ⟨Option.some.inj ((at_rounds isobathlaw03_Works.mono (Nat.le_max_left k 60) h).symm.trans (at_rounds isobathlaw03_Works.mono (Nat.le_max_right k 60) isobathlaw03_Works.true_))⟩
  have hu25 := Try.underlying25
  have hu29 := Try.underlying29
  have hu33 := Try.underlying33
  have hu31 := Try.underlying31
  have hu27 := Try.underlying27
  have HB := Aside0.mk (Below.refl w.heap.size w)
  have H : ((isobathlaw03_Example.f k).bind fun bt259 => ((isobathlaw03_point.f 2000 2000).bind fun bt281 => ((glider_Dive.f bt259.1 bt259.2.1 bt259.2.2.1 bt259.2.2.2.1 bt259.2.2.2.2.1 bt259.2.2.2.2.2.1 bt259.2.2.2.2.2.2.1 bt259.2.2.2.2.2.2.2.1 bt259.2.2.2.2.2.2.2.2.1 bt259.2.2.2.2.2.2.2.2.2.1 bt259.2.2.2.2.2.2.2.2.2.2.1 bt259.2.2.2.2.2.2.2.2.2.2.2.1 bt259.2.2.2.2.2.2.2.2.2.2.2.2.1 bt259.2.2.2.2.2.2.2.2.2.2.2.2.2.1 bt259.2.2.2.2.2.2.2.2.2.2.2.2.2.2.1 bt259.2.2.2.2.2.2.2.2.2.2.2.2.2.2.2 bt281.1 bt281.2.1 bt281.2.2.1 bt281.2.2.2 0 2 0).bind fun bt285 => ((glider_Lasts.f k bt259.2.2.2.2.2.2.2.2.2.1 bt259.2.2.2.2.2.2.2.2.2.2.1 bt259.2.2.2.2.2.2.2.2.2.2.2.1 bt259.2.2.2.2.2.2.2.2.2.2.2.2.1 bt259.2.2.2.2.2.2.2.2.2.2.2.2.2.1 bt259.2.2.2.2.2.2.2.2.2.2.2.2.2.2.1 bt259.2.2.2.2.2.2.2.2.2.2.2.2.2.2.2 300 310).bind fun bt291 => (if (wrap64 (bt285.2.2.2.2 + bt291.2)) = 0 then (if bt291.1 = 3 then (some ((bt285.1 == 2200 && (bt285.2.1 == 2400)) && ((bt285.2.2.1 == 2000 && (bt285.2.2.2.1 == 2000))))) else (some false)) else (some false)))))) = some r := h
  clear h
  replace H := Option.bind_eq_some_iff.mp H
  obtain ⟨⟨t259, t260, t261, t262, t263, t264, t265, t266, t269, t272, t273, t274, t275, t276, t277, t278⟩, A10, H⟩ := H
  replace H : ((isobathlaw03_point.f 2000 2000).bind fun bt281 => ((glider_Dive.f t259 t260 t261 t262 t263 t264 t265 t266 t269 t272 t273 t274 t275 t276 t277 t278 bt281.1 bt281.2.1 bt281.2.2.1 bt281.2.2.2 0 2 0).bind fun bt285 => ((glider_Lasts.f k t272 t273 t274 t275 t276 t277 t278 300 310).bind fun bt291 => (if (wrap64 (bt285.2.2.2.2 + bt291.2)) = 0 then (if bt291.1 = 3 then (some ((bt285.1 == 2200 && (bt285.2.1 == 2400)) && ((bt285.2.2.1 == 2000 && (bt285.2.2.2.1 == 2000))))) else (some false)) else (some false))))) = some r := H
  have A1 := Aside0.mk A10
  clear A10
  replace H := Option.bind_eq_some_iff.mp H
  obtain ⟨⟨t281, t282, t283, t284⟩, A20, H⟩ := H
  replace H : ((glider_Dive.f t259 t260 t261 t262 t263 t264 t265 t266 t269 t272 t273 t274 t275 t276 t277 t278 t281 t282 t283 t284 0 2 0).bind fun bt285 => ((glider_Lasts.f k t272 t273 t274 t275 t276 t277 t278 300 310).bind fun bt291 => (if (wrap64 (bt285.2.2.2.2 + bt291.2)) = 0 then (if bt291.1 = 3 then (some ((bt285.1 == 2200 && (bt285.2.1 == 2400)) && ((bt285.2.2.1 == 2000 && (bt285.2.2.2.1 == 2000))))) else (some false)) else (some false)))) = some r := H
  have A2 := Aside0.mk A20
  clear A20
  replace H := Option.bind_eq_some_iff.mp H
  obtain ⟨⟨t285, t286, t287, t288, t289⟩, A30, H⟩ := H
  replace H : ((glider_Lasts.f k t272 t273 t274 t275 t276 t277 t278 300 310).bind fun bt291 => (if (wrap64 (t289 + bt291.2)) = 0 then (if bt291.1 = 3 then (some ((t285 == 2200 && (t286 == 2400)) && ((t287 == 2000 && (t288 == 2000))))) else (some false)) else (some false))) = some r := H
  have A3 := Aside0.mk A30
  clear A30
  replace H := Option.bind_eq_some_iff.mp H
  obtain ⟨⟨t291, t292⟩, A40, H⟩ := H
  replace H : (if (wrap64 (t289 + t292)) = 0 then (if t291 = 3 then (some ((t285 == 2200 && (t286 == 2400)) && ((t287 == 2000 && (t288 == 2000))))) else (some false)) else (some false)) = some r := H
  have A4 := Aside0.mk A40
  clear A40
  by_cases c5 : (wrap64 (t289 + t292)) = 0
  · rw [if_pos c5] at H
    have c5b0 : ((wrap64 (t289 + t292)) == 0) = true := beq_iff_eq.mpr c5
    have c5b1 : ((wrap64 (t289 + t292)) != 0) = false := bne_eq_false_iff_eq.mpr c5
    clear c5
    by_cases c6 : t291 = 3
    · rw [if_pos c6] at H
      have c6b0 : (t291 == 3) = true := beq_iff_eq.mpr c6
      have c6b1 : (t291 != 3) = false := bne_eq_false_iff_eq.mpr c6
      clear c6
      obtain rfl := Option.some.inj H
      go_enter Try.func19, Try.ntmps19
      try go_wp2_with (first | ((with_reducible refine gate_callee (f := 61) rfl ?_); refine goesL_ (some 8) rfl rfl Try.func61 zq1 rfl #[] rfl zq8 ?_; (with_reducible refine (isobathlaw03_Example.calls k  t259 t260 t261 t262 t263 t264 t265 t266 t269 t272 t273 t274 t275 t276 t277 t278 _ A1.out).mono ?_); rintro e w7 ⟨v267, v270, rfl, ho0, ho1, hb⟩; refine ⟨_, rfl, ?_⟩; have HO268 := Aside0.mk (Kd.R_lower ho0 (below_size zbz)); have HO271 := Aside0.mk (Kd.R_lower ho1 (below_size zbz)); replace HB := zbs HB hb; (try clear hb); (try clear hb2); (try clear hk); (try clear hi); (try clear ho0); (try clear ho1)) | ((with_reducible refine gate_dst (N := 1) rfl ?_); refine box_event (by rfl) (N := 1) (by rfl) (cs := #[.int .i64 0, .int .i64 0, .int .i64 0, .int .i64 0, .int .i64 0, .int .i64 0, .int .i64 0, .slice none 0 0, .slice none 0 0]) (t := 25) zq5 ?_; intro gb279 hg w8 hbox hb; have BK279 := Aside0.mk (hbox); have GW279 := zgs HB hg; have GE279 := zgs HB hg; replace HO268 := Aside0.mk (Kd.R_below zq37 hb); replace HO271 := Aside0.mk (Kd.R_below zq38 hb); replace HB := zbs HB hb; clear hb hbox hg) | ((with_reducible refine gate_dst (N := 2) rfl ?_); refine box_event (by rfl) (N := 2) (by rfl) (cs := #[.int .i64 0, .int .i64 0, .int .i64 0, .int .i64 0, .int .i64 0, .int .i64 0, .int .i64 0]) (t := 29) zq5 ?_; intro gb280 hg w9 hbox hb; have BK280 := Aside0.mk (hbox); have GW280 := zgs HB hg; have GE280 := zgs HB hg; have NB279_280 := znp BK279 hg; have NB280_279 := znq BK279 hg; replace HO268 := Aside0.mk (Kd.R_below zq37 hb); replace HO271 := Aside0.mk (Kd.R_below zq38 hb); replace BK279 := zbb BK279 hb; replace HB := zbs HB hb; clear hb hbox hg; have hnb10 := NB279_280.out; have hnc10 := NB280_279.out; obtain ⟨hcz11_0, hcz11_1, hcz11_2, hcz11_3, hcz11_4, hcz11_5, hcz11_6, hcz11_7, hcz11_8, hfz11_0, hfz11_1, hfz11_2, hfz11_3, hfz11_4, hfz11_5, hfz11_6, hfz11_7, hfz11_8⟩ := zce9 BK279.out; obtain ⟨Ao12, co12, eo12⟩ := Kd.R_slice HO268.out; subst eo12; obtain ⟨Ao13, co13, eo13⟩ := Kd.R_slice HO271.out; subst eo13; obtain ⟨hcz14_0, hcz14_1, hcz14_2, hcz14_3, hcz14_4, hcz14_5, hcz14_6, hfz14_0, hfz14_1, hfz14_2, hfz14_3, hfz14_4, hfz14_5, hfz14_6⟩ := zce7 BK280.out))
      have n0_ : Aside0 (Kd.R Kd.bool 4 ((((((((((((((((w9.setCell ⟨gb279, 0, none⟩ (.int .i64 t259)).setCell ⟨gb279, 1, none⟩ (.int .i64 t260)).setCell ⟨gb279, 2, none⟩ (.int .i64 t261)).setCell ⟨gb279, 3, none⟩ (.int .i64 t262)).setCell ⟨gb279, 4, none⟩ (.int .i64 t263)).setCell ⟨gb279, 5, none⟩ (.int .i64 t264)).setCell ⟨gb279, 6, none⟩ (.int .i64 t265)).setCell ⟨gb279, 7, none⟩ (.slice Ao12 t266.length co12)).setCell ⟨gb279, 8, none⟩ (.slice Ao13 t269.length co13)).setCell ⟨gb280, 0, none⟩ (.int .i64 t272)).setCell ⟨gb280, 1, none⟩ (.int .i64 t273)).setCell ⟨gb280, 2, none⟩ (.int .i64 t274)).setCell ⟨gb280, 3, none⟩ (.int .i64 t275)).setCell ⟨gb280, 4, none⟩ (.int .i64 t276)).setCell ⟨gb280, 5, none⟩ (.int .i64 t277)).setCell ⟨gb280, 6, none⟩ (.int .i64 t278)) w.heap.size (fun _ => True) (.slice Ao12 t266.length co12) t266) := ⟨by (with_reducible repeat (first | apply Kd.R_alloc | apply Kd.R_drewN | apply Kd.R_drew)); exact Kd.R_mono (Kd.R_far (p := ⟨gb280, 6, none⟩) (Kd.R_far (p := ⟨gb280, 5, none⟩) (Kd.R_far (p := ⟨gb280, 4, none⟩) (Kd.R_far (p := ⟨gb280, 3, none⟩) (Kd.R_far (p := ⟨gb280, 2, none⟩) (Kd.R_far (p := ⟨gb280, 1, none⟩) (Kd.R_far (p := ⟨gb280, 0, none⟩) (Kd.R_far (p := ⟨gb279, 8, none⟩) (Kd.R_far (p := ⟨gb279, 7, none⟩) (Kd.R_far (p := ⟨gb279, 6, none⟩) (Kd.R_far (p := ⟨gb279, 5, none⟩) (Kd.R_far (p := ⟨gb279, 4, none⟩) (Kd.R_far (p := ⟨gb279, 3, none⟩) (Kd.R_far (p := ⟨gb279, 2, none⟩) (Kd.R_far (p := ⟨gb279, 1, none⟩) (Kd.R_far (p := ⟨gb279, 0, none⟩) (Kd.R_types (Kd.R_types HO268.out BK279.out (by decide)) BK280.out (by decide)) (fun _ hk => hk.1.2) (.int .i64 t259)) (fun _ hk => hk.1.2) (.int .i64 t260)) (fun _ hk => hk.1.2) (.int .i64 t261)) (fun _ hk => hk.1.2) (.int .i64 t262)) (fun _ hk => hk.1.2) (.int .i64 t263)) (fun _ hk => hk.1.2) (.int .i64 t264)) (fun _ hk => hk.1.2) (.int .i64 t265)) (fun _ hk => hk.1.2) (.slice Ao12 t266.length co12)) (fun _ hk => hk.1.2) (.slice Ao13 t269.length co13)) (fun _ hk => hk.2) (.int .i64 t272)) (fun _ hk => hk.2) (.int .i64 t273)) (fun _ hk => hk.2) (.int .i64 t274)) (fun _ hk => hk.2) (.int .i64 t275)) (fun _ hk => hk.2) (.int .i64 t276)) (fun _ hk => hk.2) (.int .i64 t277)) (fun _ hk => hk.2) (.int .i64 t278)) (fun _ hk => trivial)⟩
      have n1_ : Aside0 (Kd.R k40 40 ((((((((((((((((w9.setCell ⟨gb279, 0, none⟩ (.int .i64 t259)).setCell ⟨gb279, 1, none⟩ (.int .i64 t260)).setCell ⟨gb279, 2, none⟩ (.int .i64 t261)).setCell ⟨gb279, 3, none⟩ (.int .i64 t262)).setCell ⟨gb279, 4, none⟩ (.int .i64 t263)).setCell ⟨gb279, 5, none⟩ (.int .i64 t264)).setCell ⟨gb279, 6, none⟩ (.int .i64 t265)).setCell ⟨gb279, 7, none⟩ (.slice Ao12 t266.length co12)).setCell ⟨gb279, 8, none⟩ (.slice Ao13 t269.length co13)).setCell ⟨gb280, 0, none⟩ (.int .i64 t272)).setCell ⟨gb280, 1, none⟩ (.int .i64 t273)).setCell ⟨gb280, 2, none⟩ (.int .i64 t274)).setCell ⟨gb280, 3, none⟩ (.int .i64 t275)).setCell ⟨gb280, 4, none⟩ (.int .i64 t276)).setCell ⟨gb280, 5, none⟩ (.int .i64 t277)).setCell ⟨gb280, 6, none⟩ (.int .i64 t278)) w.heap.size (fun _ => True) (.slice Ao13 t269.length co13) t269) := ⟨by (with_reducible repeat (first | apply Kd.R_alloc | apply Kd.R_drewN | apply Kd.R_drew)); exact Kd.R_mono (Kd.R_far (p := ⟨gb280, 6, none⟩) (Kd.R_far (p := ⟨gb280, 5, none⟩) (Kd.R_far (p := ⟨gb280, 4, none⟩) (Kd.R_far (p := ⟨gb280, 3, none⟩) (Kd.R_far (p := ⟨gb280, 2, none⟩) (Kd.R_far (p := ⟨gb280, 1, none⟩) (Kd.R_far (p := ⟨gb280, 0, none⟩) (Kd.R_far (p := ⟨gb279, 8, none⟩) (Kd.R_far (p := ⟨gb279, 7, none⟩) (Kd.R_far (p := ⟨gb279, 6, none⟩) (Kd.R_far (p := ⟨gb279, 5, none⟩) (Kd.R_far (p := ⟨gb279, 4, none⟩) (Kd.R_far (p := ⟨gb279, 3, none⟩) (Kd.R_far (p := ⟨gb279, 2, none⟩) (Kd.R_far (p := ⟨gb279, 1, none⟩) (Kd.R_far (p := ⟨gb279, 0, none⟩) (Kd.R_types (Kd.R_types HO271.out BK279.out (by decide)) BK280.out (by decide)) (fun _ hk => hk.1.2) (.int .i64 t259)) (fun _ hk => hk.1.2) (.int .i64 t260)) (fun _ hk => hk.1.2) (.int .i64 t261)) (fun _ hk => hk.1.2) (.int .i64 t262)) (fun _ hk => hk.1.2) (.int .i64 t263)) (fun _ hk => hk.1.2) (.int .i64 t264)) (fun _ hk => hk.1.2) (.int .i64 t265)) (fun _ hk => hk.1.2) (.slice Ao12 t266.length co12)) (fun _ hk => hk.1.2) (.slice Ao13 t269.length co13)) (fun _ hk => hk.2) (.int .i64 t272)) (fun _ hk => hk.2) (.int .i64 t273)) (fun _ hk => hk.2) (.int .i64 t274)) (fun _ hk => hk.2) (.int .i64 t275)) (fun _ hk => hk.2) (.int .i64 t276)) (fun _ hk => hk.2) (.int .i64 t277)) (fun _ hk => hk.2) (.int .i64 t278)) (fun _ hk => trivial)⟩
      have n2_ : Aside0 (((((((((((((((((w9.setCell ⟨gb279, 0, none⟩ (.int .i64 t259)).setCell ⟨gb279, 1, none⟩ (.int .i64 t260)).setCell ⟨gb279, 2, none⟩ (.int .i64 t261)).setCell ⟨gb279, 3, none⟩ (.int .i64 t262)).setCell ⟨gb279, 4, none⟩ (.int .i64 t263)).setCell ⟨gb279, 5, none⟩ (.int .i64 t264)).setCell ⟨gb279, 6, none⟩ (.int .i64 t265)).setCell ⟨gb279, 7, none⟩ (.slice Ao12 t266.length co12)).setCell ⟨gb279, 8, none⟩ (.slice Ao13 t269.length co13)).setCell ⟨gb280, 0, none⟩ (.int .i64 t272)).setCell ⟨gb280, 1, none⟩ (.int .i64 t273)).setCell ⟨gb280, 2, none⟩ (.int .i64 t274)).setCell ⟨gb280, 3, none⟩ (.int .i64 t275)).setCell ⟨gb280, 4, none⟩ (.int .i64 t276)).setCell ⟨gb280, 5, none⟩ (.int .i64 t277)).setCell ⟨gb280, 6, none⟩ (.int .i64 t278)).heap[gb279]? = some (.cells #[.int .i64 t259, .int .i64 t260, .int .i64 t261, .int .i64 t262, .int .i64 t263, .int .i64 t264, .int .i64 t265, .slice Ao12 t266.length co12, .slice Ao13 t269.length co13] 25 (0, 0))) := ⟨by (with_reducible repeat (first | refine blk_drewN ?_ _ | refine blk_drew ?_ | refine blk_alloc ?_ _)); refine blk_far ?_ NB279_280.out _; (with_reducible repeat (first | refine blk_drewN ?_ _ | refine blk_drew ?_ | refine blk_alloc ?_ _)); refine blk_far ?_ NB279_280.out _; (with_reducible repeat (first | refine blk_drewN ?_ _ | refine blk_drew ?_ | refine blk_alloc ?_ _)); refine blk_far ?_ NB279_280.out _; (with_reducible repeat (first | refine blk_drewN ?_ _ | refine blk_drew ?_ | refine blk_alloc ?_ _)); refine blk_far ?_ NB279_280.out _; (with_reducible repeat (first | refine blk_drewN ?_ _ | refine blk_drew ?_ | refine blk_alloc ?_ _)); refine blk_far ?_ NB279_280.out _; (with_reducible repeat (first | refine blk_drewN ?_ _ | refine blk_drew ?_ | refine blk_alloc ?_ _)); refine blk_far ?_ NB279_280.out _; (with_reducible repeat (first | refine blk_drewN ?_ _ | refine blk_drew ?_ | refine blk_alloc ?_ _)); refine blk_far ?_ NB279_280.out _; (with_reducible repeat (first | refine blk_drewN ?_ _ | refine blk_drew ?_ | refine blk_alloc ?_ _)); refine blk_put (cs := #[.int .i64 t259, .int .i64 t260, .int .i64 t261, .int .i64 t262, .int .i64 t263, .int .i64 t264, .int .i64 t265, .slice Ao12 t266.length co12, .slice none 0 0]) ?_ 8 _ rfl; (with_reducible repeat (first | refine blk_drewN ?_ _ | refine blk_drew ?_ | refine blk_alloc ?_ _)); refine blk_put (cs := #[.int .i64 t259, .int .i64 t260, .int .i64 t261, .int .i64 t262, .int .i64 t263, .int .i64 t264, .int .i64 t265, .slice none 0 0, .slice none 0 0]) ?_ 7 _ rfl; (with_reducible repeat (first | refine blk_drewN ?_ _ | refine blk_drew ?_ | refine blk_alloc ?_ _)); refine blk_put (cs := #[.int .i64 t259, .int .i64 t260, .int .i64 t261, .int .i64 t262, .int .i64 t263, .int .i64 t264, .int .i64 0, .slice none 0 0, .slice none 0 0]) ?_ 6 _ rfl; (with_reducible repeat (first | refine blk_drewN ?_ _ | refine blk_drew ?_ | refine blk_alloc ?_ _)); refine blk_put (cs := #[.int .i64 t259, .int .i64 t260, .int .i64 t261, .int .i64 t262, .int .i64 t263, .int .i64 0, .int .i64 0, .slice none 0 0, .slice none 0 0]) ?_ 5 _ rfl; (with_reducible repeat (first | refine blk_drewN ?_ _ | refine blk_drew ?_ | refine blk_alloc ?_ _)); refine blk_put (cs := #[.int .i64 t259, .int .i64 t260, .int .i64 t261, .int .i64 t262, .int .i64 0, .int .i64 0, .int .i64 0, .slice none 0 0, .slice none 0 0]) ?_ 4 _ rfl; (with_reducible repeat (first | refine blk_drewN ?_ _ | refine blk_drew ?_ | refine blk_alloc ?_ _)); refine blk_put (cs := #[.int .i64 t259, .int .i64 t260, .int .i64 t261, .int .i64 0, .int .i64 0, .int .i64 0, .int .i64 0, .slice none 0 0, .slice none 0 0]) ?_ 3 _ rfl; (with_reducible repeat (first | refine blk_drewN ?_ _ | refine blk_drew ?_ | refine blk_alloc ?_ _)); refine blk_put (cs := #[.int .i64 t259, .int .i64 t260, .int .i64 0, .int .i64 0, .int .i64 0, .int .i64 0, .int .i64 0, .slice none 0 0, .slice none 0 0]) ?_ 2 _ rfl; (with_reducible repeat (first | refine blk_drewN ?_ _ | refine blk_drew ?_ | refine blk_alloc ?_ _)); refine blk_put (cs := #[.int .i64 t259, .int .i64 0, .int .i64 0, .int .i64 0, .int .i64 0, .int .i64 0, .int .i64 0, .slice none 0 0, .slice none 0 0]) ?_ 1 _ rfl; (with_reducible repeat (first | refine blk_drewN ?_ _ | refine blk_drew ?_ | refine blk_alloc ?_ _)); refine blk_put (cs := #[.int .i64 0, .int .i64 0, .int .i64 0, .int .i64 0, .int .i64 0, .int .i64 0, .int .i64 0, .slice none 0 0, .slice none 0 0]) ?_ 0 _ rfl; (with_reducible repeat (first | refine blk_drewN ?_ _ | refine blk_drew ?_ | refine blk_alloc ?_ _)); exact BK279.out⟩
      have n3_ : Aside0 (((((((((((((((((w9.setCell ⟨gb279, 0, none⟩ (.int .i64 t259)).setCell ⟨gb279, 1, none⟩ (.int .i64 t260)).setCell ⟨gb279, 2, none⟩ (.int .i64 t261)).setCell ⟨gb279, 3, none⟩ (.int .i64 t262)).setCell ⟨gb279, 4, none⟩ (.int .i64 t263)).setCell ⟨gb279, 5, none⟩ (.int .i64 t264)).setCell ⟨gb279, 6, none⟩ (.int .i64 t265)).setCell ⟨gb279, 7, none⟩ (.slice Ao12 t266.length co12)).setCell ⟨gb279, 8, none⟩ (.slice Ao13 t269.length co13)).setCell ⟨gb280, 0, none⟩ (.int .i64 t272)).setCell ⟨gb280, 1, none⟩ (.int .i64 t273)).setCell ⟨gb280, 2, none⟩ (.int .i64 t274)).setCell ⟨gb280, 3, none⟩ (.int .i64 t275)).setCell ⟨gb280, 4, none⟩ (.int .i64 t276)).setCell ⟨gb280, 5, none⟩ (.int .i64 t277)).setCell ⟨gb280, 6, none⟩ (.int .i64 t278)).heap[gb280]? = some (.cells #[.int .i64 t272, .int .i64 t273, .int .i64 t274, .int .i64 t275, .int .i64 t276, .int .i64 t277, .int .i64 t278] 29 (0, 0))) := ⟨by (with_reducible repeat (first | refine blk_drewN ?_ _ | refine blk_drew ?_ | refine blk_alloc ?_ _)); refine blk_put (cs := #[.int .i64 t272, .int .i64 t273, .int .i64 t274, .int .i64 t275, .int .i64 t276, .int .i64 t277, .int .i64 0]) ?_ 6 _ rfl; (with_reducible repeat (first | refine blk_drewN ?_ _ | refine blk_drew ?_ | refine blk_alloc ?_ _)); refine blk_put (cs := #[.int .i64 t272, .int .i64 t273, .int .i64 t274, .int .i64 t275, .int .i64 t276, .int .i64 0, .int .i64 0]) ?_ 5 _ rfl; (with_reducible repeat (first | refine blk_drewN ?_ _ | refine blk_drew ?_ | refine blk_alloc ?_ _)); refine blk_put (cs := #[.int .i64 t272, .int .i64 t273, .int .i64 t274, .int .i64 t275, .int .i64 0, .int .i64 0, .int .i64 0]) ?_ 4 _ rfl; (with_reducible repeat (first | refine blk_drewN ?_ _ | refine blk_drew ?_ | refine blk_alloc ?_ _)); refine blk_put (cs := #[.int .i64 t272, .int .i64 t273, .int .i64 t274, .int .i64 0, .int .i64 0, .int .i64 0, .int .i64 0]) ?_ 3 _ rfl; (with_reducible repeat (first | refine blk_drewN ?_ _ | refine blk_drew ?_ | refine blk_alloc ?_ _)); refine blk_put (cs := #[.int .i64 t272, .int .i64 t273, .int .i64 0, .int .i64 0, .int .i64 0, .int .i64 0, .int .i64 0]) ?_ 2 _ rfl; (with_reducible repeat (first | refine blk_drewN ?_ _ | refine blk_drew ?_ | refine blk_alloc ?_ _)); refine blk_put (cs := #[.int .i64 t272, .int .i64 0, .int .i64 0, .int .i64 0, .int .i64 0, .int .i64 0, .int .i64 0]) ?_ 1 _ rfl; (with_reducible repeat (first | refine blk_drewN ?_ _ | refine blk_drew ?_ | refine blk_alloc ?_ _)); refine blk_put (cs := #[.int .i64 0, .int .i64 0, .int .i64 0, .int .i64 0, .int .i64 0, .int .i64 0, .int .i64 0]) ?_ 0 _ rfl; (with_reducible repeat (first | refine blk_drewN ?_ _ | refine blk_drew ?_ | refine blk_alloc ?_ _)); refine blk_far ?_ NB280_279.out _; (with_reducible repeat (first | refine blk_drewN ?_ _ | refine blk_drew ?_ | refine blk_alloc ?_ _)); refine blk_far ?_ NB280_279.out _; (with_reducible repeat (first | refine blk_drewN ?_ _ | refine blk_drew ?_ | refine blk_alloc ?_ _)); refine blk_far ?_ NB280_279.out _; (with_reducible repeat (first | refine blk_drewN ?_ _ | refine blk_drew ?_ | refine blk_alloc ?_ _)); refine blk_far ?_ NB280_279.out _; (with_reducible repeat (first | refine blk_drewN ?_ _ | refine blk_drew ?_ | refine blk_alloc ?_ _)); refine blk_far ?_ NB280_279.out _; (with_reducible repeat (first | refine blk_drewN ?_ _ | refine blk_drew ?_ | refine blk_alloc ?_ _)); refine blk_far ?_ NB280_279.out _; (with_reducible repeat (first | refine blk_drewN ?_ _ | refine blk_drew ?_ | refine blk_alloc ?_ _)); refine blk_far ?_ NB280_279.out _; (with_reducible repeat (first | refine blk_drewN ?_ _ | refine blk_drew ?_ | refine blk_alloc ?_ _)); refine blk_far ?_ NB280_279.out _; (with_reducible repeat (first | refine blk_drewN ?_ _ | refine blk_drew ?_ | refine blk_alloc ?_ _)); refine blk_far ?_ NB280_279.out _; (with_reducible repeat (first | refine blk_drewN ?_ _ | refine blk_drew ?_ | refine blk_alloc ?_ _)); exact BK280.out⟩
      have n4_ : Aside0 (Below w.heap.size w ((((((((((((((((w9.setCell ⟨gb279, 0, none⟩ (.int .i64 t259)).setCell ⟨gb279, 1, none⟩ (.int .i64 t260)).setCell ⟨gb279, 2, none⟩ (.int .i64 t261)).setCell ⟨gb279, 3, none⟩ (.int .i64 t262)).setCell ⟨gb279, 4, none⟩ (.int .i64 t263)).setCell ⟨gb279, 5, none⟩ (.int .i64 t264)).setCell ⟨gb279, 6, none⟩ (.int .i64 t265)).setCell ⟨gb279, 7, none⟩ (.slice Ao12 t266.length co12)).setCell ⟨gb279, 8, none⟩ (.slice Ao13 t269.length co13)).setCell ⟨gb280, 0, none⟩ (.int .i64 t272)).setCell ⟨gb280, 1, none⟩ (.int .i64 t273)).setCell ⟨gb280, 2, none⟩ (.int .i64 t274)).setCell ⟨gb280, 3, none⟩ (.int .i64 t275)).setCell ⟨gb280, 4, none⟩ (.int .i64 t276)).setCell ⟨gb280, 5, none⟩ (.int .i64 t277)).setCell ⟨gb280, 6, none⟩ (.int .i64 t278))) := ⟨zbz⟩
      (try clear HO268)
      (try clear HO271)
      (try clear BK279)
      (try clear BK280)
      (try clear HB)
      generalize ((((((((((((((((w9.setCell ⟨gb279, 0, none⟩ (.int .i64 t259)).setCell ⟨gb279, 1, none⟩ (.int .i64 t260)).setCell ⟨gb279, 2, none⟩ (.int .i64 t261)).setCell ⟨gb279, 3, none⟩ (.int .i64 t262)).setCell ⟨gb279, 4, none⟩ (.int .i64 t263)).setCell ⟨gb279, 5, none⟩ (.int .i64 t264)).setCell ⟨gb279, 6, none⟩ (.int .i64 t265)).setCell ⟨gb279, 7, none⟩ (.slice Ao12 t266.length co12)).setCell ⟨gb279, 8, none⟩ (.slice Ao13 t269.length co13)).setCell ⟨gb280, 0, none⟩ (.int .i64 t272)).setCell ⟨gb280, 1, none⟩ (.int .i64 t273)).setCell ⟨gb280, 2, none⟩ (.int .i64 t274)).setCell ⟨gb280, 3, none⟩ (.int .i64 t275)).setCell ⟨gb280, 4, none⟩ (.int .i64 t276)).setCell ⟨gb280, 5, none⟩ (.int .i64 t277)).setCell ⟨gb280, 6, none⟩ (.int .i64 t278)) = w15 at n0_ n1_ n2_ n3_ n4_ ⊢
      have HO268 := n0_
      have HO271 := n1_
      have BK279 := n2_
      have BK280 := n3_
      have HB := n4_
      clear n0_ n1_ n2_ n3_ n4_
      replace HO268 := Aside0.mk (Kd.R_drew HO268.out)
      replace HO271 := Aside0.mk (Kd.R_drew HO271.out)
      replace BK279 := Aside0.mk (blk_drew BK279.out)
      replace BK280 := Aside0.mk (blk_drew BK280.out)
      replace HB := Aside0.mk (below_drew1 HB.out)
      refine start_ (n := 11) (S := fun w' => w'.cell? ⟨gb279, 0, none⟩ = some (.int .i64 t259) ∧ w'.cell? ⟨gb279, 1, none⟩ = some (.int .i64 t260) ∧ w'.cell? ⟨gb279, 2, none⟩ = some (.int .i64 t261) ∧ w'.cell? ⟨gb279, 3, none⟩ = some (.int .i64 t262) ∧ w'.cell? ⟨gb279, 4, none⟩ = some (.int .i64 t263) ∧ w'.cell? ⟨gb279, 5, none⟩ = some (.int .i64 t264) ∧ w'.cell? ⟨gb279, 6, none⟩ = some (.int .i64 t265) ∧ w'.cell? ⟨gb279, 7, none⟩ = some (.slice Ao12 t266.length co12) ∧ w'.cell? ⟨gb279, 8, none⟩ = some (.slice Ao13 t269.length co13) ∧ w'.cell? ⟨gb280, 0, none⟩ = some (.int .i64 t272) ∧ w'.cell? ⟨gb280, 1, none⟩ = some (.int .i64 t273) ∧ w'.cell? ⟨gb280, 2, none⟩ = some (.int .i64 t274) ∧ w'.cell? ⟨gb280, 3, none⟩ = some (.int .i64 t275) ∧ w'.cell? ⟨gb280, 4, none⟩ = some (.int .i64 t276) ∧ w'.cell? ⟨gb280, 5, none⟩ = some (.int .i64 t277) ∧ w'.cell? ⟨gb280, 6, none⟩ = some (.int .i64 t278)) (ds := []) #[false, false, false, false, false, false, false, false, false, false, false] zq1 rfl rfl ⟨(blk_cell BK279.out 0).trans rfl, (blk_cell BK279.out 1).trans rfl, (blk_cell BK279.out 2).trans rfl, (blk_cell BK279.out 3).trans rfl, (blk_cell BK279.out 4).trans rfl, (blk_cell BK279.out 5).trans rfl, (blk_cell BK279.out 6).trans rfl, (blk_cell BK279.out 7).trans rfl, (blk_cell BK279.out 8).trans rfl, (blk_cell BK280.out 0).trans rfl, (blk_cell BK280.out 1).trans rfl, (blk_cell BK280.out 2).trans rfl, (blk_cell BK280.out 3).trans rfl, (blk_cell BK280.out 4).trans rfl, (blk_cell BK280.out 5).trans rfl, (blk_cell BK280.out 6).trans rfl⟩ (fun hHeld => ?_); refine with_tabW isobathlaw03_Works.tab2 isobathlaw03_Works.bits2 (fun HT_ HW_ => ?_)
      generalize w15.drew = w16 at HO268 HO271 BK279 BK280 HB hHeld ⊢
      refine zpz (i := 3) (N := some 15) (any_of HT_.out zq1) ?_
      refine ztz (i := 0) (N := some 12) (take_ofW HT_.out HW_.out zq1) hHeld ?_
      refine ztz (i := 1) (N := some 13) (take_ofW HT_.out HW_.out zq1) hHeld ?_
      refine join_ (σ := Nat) 2 #[true, true, true, true, true, true, true, true, true, false, false] (fun s_ => [(14, .agg #[.int .i64 t281, .int .i64 t282, .int .i64 t283, .int .i64 t284]), (16, .tuple #[.agg #[.int .i64 t285, .int .i64 t286, .int .i64 t287, .int .i64 t288], .int .i64 t289]), (3, .pointer (some ⟨s_, 0, none⟩)), (11, .tuple #[.agg #[.int .i64 t285, .int .i64 t286, .int .i64 t287, .int .i64 t288], .int .i64 t289]), (17, .agg #[.int .i64 t285, .int .i64 t286, .int .i64 t287, .int .i64 t288]), (18, .int .i64 t289)]) (fun s_ w' => (w'.cell? ⟨gb279, 0, none⟩ = some (.int .i64 t259) ∧ w'.cell? ⟨gb279, 1, none⟩ = some (.int .i64 t260) ∧ w'.cell? ⟨gb279, 2, none⟩ = some (.int .i64 t261) ∧ w'.cell? ⟨gb279, 3, none⟩ = some (.int .i64 t262) ∧ w'.cell? ⟨gb279, 4, none⟩ = some (.int .i64 t263) ∧ w'.cell? ⟨gb279, 5, none⟩ = some (.int .i64 t264) ∧ w'.cell? ⟨gb279, 6, none⟩ = some (.int .i64 t265) ∧ w'.cell? ⟨gb279, 7, none⟩ = some (.slice Ao12 t266.length co12) ∧ w'.cell? ⟨gb279, 8, none⟩ = some (.slice Ao13 t269.length co13) ∧ w'.cell? ⟨gb280, 0, none⟩ = some (.int .i64 t272) ∧ w'.cell? ⟨gb280, 1, none⟩ = some (.int .i64 t273) ∧ w'.cell? ⟨gb280, 2, none⟩ = some (.int .i64 t274) ∧ w'.cell? ⟨gb280, 3, none⟩ = some (.int .i64 t275) ∧ w'.cell? ⟨gb280, 4, none⟩ = some (.int .i64 t276) ∧ w'.cell? ⟨gb280, 5, none⟩ = some (.int .i64 t277) ∧ w'.cell? ⟨gb280, 6, none⟩ = some (.int .i64 t278)) ∧ (Kd.R Kd.bool 4 w' w.heap.size (fun _ => True) (.slice Ao12 t266.length co12) t266) ∧ (Kd.R k40 40 w' w.heap.size (fun _ => True) (.slice Ao13 t269.length co13) t269) ∧ (w'.heap[gb279]? = some (.cells #[.int .i64 t259, .int .i64 t260, .int .i64 t261, .int .i64 t262, .int .i64 t263, .int .i64 t264, .int .i64 t265, .slice Ao12 t266.length co12, .slice Ao13 t269.length co13] 25 (0, 0))) ∧ (w'.heap[gb280]? = some (.cells #[.int .i64 t272, .int .i64 t273, .int .i64 t274, .int .i64 t275, .int .i64 t276, .int .i64 t277, .int .i64 t278] 29 (0, 0))) ∧ (w'.heap[s_]? = some (.cells #[.int .i64 0, .int .i64 0, .int .i64 0, .int .i64 0] 31 (0, 0))) ∧ (w.heap.size ≤ s_) ∧ (w.heap.size ≤ s_) ∧ (gb279 ≠ s_) ∧ (s_ ≠ gb279) ∧ (gb280 ≠ s_) ∧ (s_ ≠ gb280) ∧ (Below w.heap.size w w')) ?_ ?_
      rotate_left
      · intro hCont
        refine two_ (i := 2) (j := 8) (Ni := some 14) (Nj := some 3) #[true, true, true, true, false, false, false, false, false, false, false] #[true, true, false, true, false, false, false, false, true, false, false] rfl rfl rfl rfl (two_of HT_.out zq1) (by decide) (by decide) (fun K hK => ?_) (fun K hK => ?_)
        · skip
          refine goes_ Try.func62 zq1 rfl #[.int .i64 2000, .int .i64 2000] (by rfl) rfl rfl zq8 ?_
          with_reducible refine (isobathlaw03_point.calls 2000 2000 t281 t282 t283 t284 _ A2.out).mono ?_
          rintro e w17 ⟨rfl, hb⟩
          refine ⟨_, rfl, ?_⟩
          replace HO268 := Aside0.mk (Kd.R_below zq37 hb)
          replace HO271 := Aside0.mk (Kd.R_below zq38 hb)
          replace BK279 := zbb BK279 hb
          replace BK280 := zbb BK280 hb
          replace HB := zbs HB hb
          (try clear hb)
          (try clear hb2)
          (try clear hk)
          (try clear hi)
          refine hK.out _ _ ⟨(blk_cell BK279.out 0).trans rfl, (blk_cell BK279.out 1).trans rfl, (blk_cell BK279.out 2).trans rfl, (blk_cell BK279.out 3).trans rfl, (blk_cell BK279.out 4).trans rfl, (blk_cell BK279.out 5).trans rfl, (blk_cell BK279.out 6).trans rfl, (blk_cell BK279.out 7).trans rfl, (blk_cell BK279.out 8).trans rfl, (blk_cell BK280.out 0).trans rfl, (blk_cell BK280.out 1).trans rfl, (blk_cell BK280.out 2).trans rfl, (blk_cell BK280.out 3).trans rfl, (blk_cell BK280.out 4).trans rfl, (blk_cell BK280.out 5).trans rfl, (blk_cell BK280.out 6).trans rfl⟩ (fun hHeld => ?_)
          clear hK K
          refine norm_ zq39 ?_
          refine two_ (i := 4) (j := 8) (Ni := some 16) (Nj := some 3) #[true, true, true, true, true, false, false, false, false, false, false] #[true, true, true, true, false, false, false, false, true, false, false] rfl rfl rfl rfl (two_of HT_.out zq1) (by decide) (by decide) (fun K hK => ?_) (fun K hK => ?_)
          · skip
            refine goes_ Try.func20 zq1 rfl #[.agg #[.int .i64 t259, .int .i64 t260, .int .i64 t261, .int .i64 t262, .int .i64 t263, .int .i64 t264, .int .i64 t265, .slice Ao12 t266.length co12, .slice Ao13 t269.length co13], .agg #[.int .i64 t272, .int .i64 t273, .int .i64 t274, .int .i64 t275, .int .i64 t276, .int .i64 t277, .int .i64 t278], .agg #[.int .i64 t281, .int .i64 t282, .int .i64 t283, .int .i64 t284], .int .i64 0, .agg #[.int .i64 2, .int .i64 0]] (by rfl) rfl rfl zq8 ?_
            with_reducible refine (glider_Dive.calls t259 t260 t261 t262 t263 t264 t265 _ _ t266 _ _ t269 t272 t273 t274 t275 t276 t277 t278 t281 t282 t283 t284 0 2 0 t285 t286 t287 t288 t289 _ ?side1 ?side2 ?side3 ?side4 A3.out).mono ?_
            (case side1 => repeat (first | exact (Kd.R_reads' HO268.out).2.2 | (with_reducible refine Kd.C_alloc ?_ _) | (with_reducible refine Kd.C_drewN ?_ _) | (with_reducible refine Kd.C_drew ?_)))
            (case side2 => exact (Kd.R_reads' HO268.out).2.1)
            (case side3 => repeat (first | exact (Kd.R_reads' HO271.out).2.2 | (with_reducible refine Kd.C_alloc ?_ _) | (with_reducible refine Kd.C_drewN ?_ _) | (with_reducible refine Kd.C_drew ?_)))
            (case side4 => exact (Kd.R_reads' HO271.out).2.1)
            rintro e w18 ⟨rfl, hb⟩
            refine ⟨_, rfl, ?_⟩
            replace HO268 := Aside0.mk (Kd.R_below zq37 hb)
            replace HO271 := Aside0.mk (Kd.R_below zq38 hb)
            replace BK279 := zbb BK279 hb
            replace BK280 := zbb BK280 hb
            replace HB := zbs HB hb
            (try clear hb)
            (try clear hb2)
            (try clear hk)
            (try clear hi)
            refine hK.out _ _ ⟨(blk_cell BK279.out 0).trans rfl, (blk_cell BK279.out 1).trans rfl, (blk_cell BK279.out 2).trans rfl, (blk_cell BK279.out 3).trans rfl, (blk_cell BK279.out 4).trans rfl, (blk_cell BK279.out 5).trans rfl, (blk_cell BK279.out 6).trans rfl, (blk_cell BK279.out 7).trans rfl, (blk_cell BK279.out 8).trans rfl, (blk_cell BK280.out 0).trans rfl, (blk_cell BK280.out 1).trans rfl, (blk_cell BK280.out 2).trans rfl, (blk_cell BK280.out 3).trans rfl, (blk_cell BK280.out 4).trans rfl, (blk_cell BK280.out 5).trans rfl, (blk_cell BK280.out 6).trans rfl⟩ (fun hHeld => ?_)
            clear hK K
            refine norm_ zq21 ?_
            refine zpz (i := 5) (N := some 11) (any_of HT_.out zq1) ?_
            refine zpz (i := 6) (N := some 17) (any_of HT_.out zq1) ?_
            refine zpz (i := 7) (N := some 18) (any_of HT_.out zq1) ?_
            refine one_ (i := 8) (N := some 3) #[true, true, true, true, true, true, true, true, true, false, false] rfl rfl (one_of HT_.out zq1) (by decide) (fun K hK => ?_)
            refine box_step ?hg (N := 3) ?hd (cs := #[.int .i64 0, .int .i64 0, .int .i64 0, .int .i64 0]) (t := 31) ?hr ?_; (case hd => rfl); (case hg => rfl); (case hr => first | (go_simp; done) | (go_simp; rfl))
            intro gb290 hg w19 hbox hb
            have BK290 := Aside0.mk (hbox)
            have GW290 := zgs HB hg
            have GE290 := zgs HB hg
            have NB279_290 := znp BK279 hg
            have NB290_279 := znq BK279 hg
            have NB280_290 := znp BK280 hg
            have NB290_280 := znq BK280 hg
            replace HO268 := Aside0.mk (Kd.R_below zq37 hb)
            replace HO271 := Aside0.mk (Kd.R_below zq38 hb)
            replace BK279 := zbb BK279 hb
            replace BK280 := zbb BK280 hb
            replace HB := zbs HB hb
            clear hb hbox hg
            refine hK.out _ _ ⟨(blk_cell BK279.out 0).trans rfl, (blk_cell BK279.out 1).trans rfl, (blk_cell BK279.out 2).trans rfl, (blk_cell BK279.out 3).trans rfl, (blk_cell BK279.out 4).trans rfl, (blk_cell BK279.out 5).trans rfl, (blk_cell BK279.out 6).trans rfl, (blk_cell BK279.out 7).trans rfl, (blk_cell BK279.out 8).trans rfl, (blk_cell BK280.out 0).trans rfl, (blk_cell BK280.out 1).trans rfl, (blk_cell BK280.out 2).trans rfl, (blk_cell BK280.out 3).trans rfl, (blk_cell BK280.out 4).trans rfl, (blk_cell BK280.out 5).trans rfl, (blk_cell BK280.out 6).trans rfl⟩ (fun hHeld => ?_)
            clear hK K
            refine norm_ zq40 ?_
            exact norm_ zq41 (hCont (gb290) _ ⟨hHeld, zq37, zq38, (by (with_reducible repeat (first | refine blk_drewN ?_ _ | refine blk_drew ?_ | refine blk_alloc ?_ _)); exact BK279.out), (by (with_reducible repeat (first | refine blk_drewN ?_ _ | refine blk_drew ?_ | refine blk_alloc ?_ _)); exact BK280.out), (by (with_reducible repeat (first | refine blk_drewN ?_ _ | refine blk_drew ?_ | refine blk_alloc ?_ _)); exact BK290.out), GW290.out, GE290.out, NB279_290.out, NB290_279.out, NB280_290.out, NB290_280.out, zbz⟩)
          · skip
            refine box_step ?hg (N := 3) ?hd (cs := #[.int .i64 0, .int .i64 0, .int .i64 0, .int .i64 0]) (t := 31) ?hr ?_; (case hd => rfl); (case hg => rfl); (case hr => first | (go_simp; done) | (go_simp; rfl))
            intro gb290 hg w18 hbox hb
            have BK290 := Aside0.mk (hbox)
            have GW290 := zgs HB hg
            have GE290 := zgs HB hg
            have NB279_290 := znp BK279 hg
            have NB290_279 := znq BK279 hg
            have NB280_290 := znp BK280 hg
            have NB290_280 := znq BK280 hg
            replace HO268 := Aside0.mk (Kd.R_below zq37 hb)
            replace HO271 := Aside0.mk (Kd.R_below zq38 hb)
            replace BK279 := zbb BK279 hb
            replace BK280 := zbb BK280 hb
            replace HB := zbs HB hb
            clear hb hbox hg
            refine hK.out _ _ ⟨(blk_cell BK279.out 0).trans rfl, (blk_cell BK279.out 1).trans rfl, (blk_cell BK279.out 2).trans rfl, (blk_cell BK279.out 3).trans rfl, (blk_cell BK279.out 4).trans rfl, (blk_cell BK279.out 5).trans rfl, (blk_cell BK279.out 6).trans rfl, (blk_cell BK279.out 7).trans rfl, (blk_cell BK279.out 8).trans rfl, (blk_cell BK280.out 0).trans rfl, (blk_cell BK280.out 1).trans rfl, (blk_cell BK280.out 2).trans rfl, (blk_cell BK280.out 3).trans rfl, (blk_cell BK280.out 4).trans rfl, (blk_cell BK280.out 5).trans rfl, (blk_cell BK280.out 6).trans rfl⟩ (fun hHeld => ?_)
            clear hK K
            refine norm_ zq40 ?_
            refine one_ (i := 4) (N := some 16) #[true, true, true, true, true, false, false, false, true, false, false] rfl rfl (one_of HT_.out zq1) (by decide) (fun K hK => ?_)
            refine goes_ Try.func20 zq1 rfl #[.agg #[.int .i64 t259, .int .i64 t260, .int .i64 t261, .int .i64 t262, .int .i64 t263, .int .i64 t264, .int .i64 t265, .slice Ao12 t266.length co12, .slice Ao13 t269.length co13], .agg #[.int .i64 t272, .int .i64 t273, .int .i64 t274, .int .i64 t275, .int .i64 t276, .int .i64 t277, .int .i64 t278], .agg #[.int .i64 t281, .int .i64 t282, .int .i64 t283, .int .i64 t284], .int .i64 0, .agg #[.int .i64 2, .int .i64 0]] (by rfl) rfl rfl zq8 ?_
            with_reducible refine (glider_Dive.calls t259 t260 t261 t262 t263 t264 t265 _ _ t266 _ _ t269 t272 t273 t274 t275 t276 t277 t278 t281 t282 t283 t284 0 2 0 t285 t286 t287 t288 t289 _ ?side1 ?side2 ?side3 ?side4 A3.out).mono ?_
            (case side1 => repeat (first | exact (Kd.R_reads' HO268.out).2.2 | (with_reducible refine Kd.C_alloc ?_ _) | (with_reducible refine Kd.C_drewN ?_ _) | (with_reducible refine Kd.C_drew ?_)))
            (case side2 => exact (Kd.R_reads' HO268.out).2.1)
            (case side3 => repeat (first | exact (Kd.R_reads' HO271.out).2.2 | (with_reducible refine Kd.C_alloc ?_ _) | (with_reducible refine Kd.C_drewN ?_ _) | (with_reducible refine Kd.C_drew ?_)))
            (case side4 => exact (Kd.R_reads' HO271.out).2.1)
            rintro e w19 ⟨rfl, hb⟩
            refine ⟨_, rfl, ?_⟩
            replace HO268 := Aside0.mk (Kd.R_below zq37 hb)
            replace HO271 := Aside0.mk (Kd.R_below zq38 hb)
            replace BK279 := zbb BK279 hb
            replace BK280 := zbb BK280 hb
            replace BK290 := zbb BK290 hb
            replace HB := zbs HB hb
            (try clear hb)
            (try clear hb2)
            (try clear hk)
            (try clear hi)
            refine hK.out _ _ ⟨(blk_cell BK279.out 0).trans rfl, (blk_cell BK279.out 1).trans rfl, (blk_cell BK279.out 2).trans rfl, (blk_cell BK279.out 3).trans rfl, (blk_cell BK279.out 4).trans rfl, (blk_cell BK279.out 5).trans rfl, (blk_cell BK279.out 6).trans rfl, (blk_cell BK279.out 7).trans rfl, (blk_cell BK279.out 8).trans rfl, (blk_cell BK280.out 0).trans rfl, (blk_cell BK280.out 1).trans rfl, (blk_cell BK280.out 2).trans rfl, (blk_cell BK280.out 3).trans rfl, (blk_cell BK280.out 4).trans rfl, (blk_cell BK280.out 5).trans rfl, (blk_cell BK280.out 6).trans rfl⟩ (fun hHeld => ?_)
            clear hK K
            refine norm_ zq21 ?_
            refine zpz (i := 5) (N := some 11) (any_of HT_.out zq1) ?_
            refine zpz (i := 6) (N := some 17) (any_of HT_.out zq1) ?_
            refine zpz (i := 7) (N := some 18) (any_of HT_.out zq1) ?_
            exact norm_ zq41 (hCont (gb290) _ ⟨hHeld, zq37, zq38, (by (with_reducible repeat (first | refine blk_drewN ?_ _ | refine blk_drew ?_ | refine blk_alloc ?_ _)); exact BK279.out), (by (with_reducible repeat (first | refine blk_drewN ?_ _ | refine blk_drew ?_ | refine blk_alloc ?_ _)); exact BK280.out), (by (with_reducible repeat (first | refine blk_drewN ?_ _ | refine blk_drew ?_ | refine blk_alloc ?_ _)); exact BK290.out), GW290.out, GE290.out, NB279_290.out, NB290_279.out, NB280_290.out, NB290_280.out, zbz⟩)
        · skip
          refine box_step ?hg (N := 3) ?hd (cs := #[.int .i64 0, .int .i64 0, .int .i64 0, .int .i64 0]) (t := 31) ?hr ?_; (case hd => rfl); (case hg => rfl); (case hr => first | (go_simp; done) | (go_simp; rfl))
          intro gb290 hg w17 hbox hb
          have BK290 := Aside0.mk (hbox)
          have GW290 := zgs HB hg
          have GE290 := zgs HB hg
          have NB279_290 := znp BK279 hg
          have NB290_279 := znq BK279 hg
          have NB280_290 := znp BK280 hg
          have NB290_280 := znq BK280 hg
          replace HO268 := Aside0.mk (Kd.R_below zq37 hb)
          replace HO271 := Aside0.mk (Kd.R_below zq38 hb)
          replace BK279 := zbb BK279 hb
          replace BK280 := zbb BK280 hb
          replace HB := zbs HB hb
          clear hb hbox hg
          refine hK.out _ _ ⟨(blk_cell BK279.out 0).trans rfl, (blk_cell BK279.out 1).trans rfl, (blk_cell BK279.out 2).trans rfl, (blk_cell BK279.out 3).trans rfl, (blk_cell BK279.out 4).trans rfl, (blk_cell BK279.out 5).trans rfl, (blk_cell BK279.out 6).trans rfl, (blk_cell BK279.out 7).trans rfl, (blk_cell BK279.out 8).trans rfl, (blk_cell BK280.out 0).trans rfl, (blk_cell BK280.out 1).trans rfl, (blk_cell BK280.out 2).trans rfl, (blk_cell BK280.out 3).trans rfl, (blk_cell BK280.out 4).trans rfl, (blk_cell BK280.out 5).trans rfl, (blk_cell BK280.out 6).trans rfl⟩ (fun hHeld => ?_)
          clear hK K
          refine norm_ zq40 ?_
          refine one_ (i := 2) (N := some 14) #[true, true, true, true, false, false, false, false, true, false, false] rfl rfl (one_of HT_.out zq1) (by decide) (fun K hK => ?_)
          refine goes_ Try.func62 zq1 rfl #[.int .i64 2000, .int .i64 2000] (by rfl) rfl rfl zq8 ?_
          with_reducible refine (isobathlaw03_point.calls 2000 2000 t281 t282 t283 t284 _ A2.out).mono ?_
          rintro e w18 ⟨rfl, hb⟩
          refine ⟨_, rfl, ?_⟩
          replace HO268 := Aside0.mk (Kd.R_below zq37 hb)
          replace HO271 := Aside0.mk (Kd.R_below zq38 hb)
          replace BK279 := zbb BK279 hb
          replace BK280 := zbb BK280 hb
          replace BK290 := zbb BK290 hb
          replace HB := zbs HB hb
          (try clear hb)
          (try clear hb2)
          (try clear hk)
          (try clear hi)
          refine hK.out _ _ ⟨(blk_cell BK279.out 0).trans rfl, (blk_cell BK279.out 1).trans rfl, (blk_cell BK279.out 2).trans rfl, (blk_cell BK279.out 3).trans rfl, (blk_cell BK279.out 4).trans rfl, (blk_cell BK279.out 5).trans rfl, (blk_cell BK279.out 6).trans rfl, (blk_cell BK279.out 7).trans rfl, (blk_cell BK279.out 8).trans rfl, (blk_cell BK280.out 0).trans rfl, (blk_cell BK280.out 1).trans rfl, (blk_cell BK280.out 2).trans rfl, (blk_cell BK280.out 3).trans rfl, (blk_cell BK280.out 4).trans rfl, (blk_cell BK280.out 5).trans rfl, (blk_cell BK280.out 6).trans rfl⟩ (fun hHeld => ?_)
          clear hK K
          refine norm_ zq39 ?_
          refine one_ (i := 4) (N := some 16) #[true, true, true, true, true, false, false, false, true, false, false] rfl rfl (one_of HT_.out zq1) (by decide) (fun K hK => ?_)
          refine goes_ Try.func20 zq1 rfl #[.agg #[.int .i64 t259, .int .i64 t260, .int .i64 t261, .int .i64 t262, .int .i64 t263, .int .i64 t264, .int .i64 t265, .slice Ao12 t266.length co12, .slice Ao13 t269.length co13], .agg #[.int .i64 t272, .int .i64 t273, .int .i64 t274, .int .i64 t275, .int .i64 t276, .int .i64 t277, .int .i64 t278], .agg #[.int .i64 t281, .int .i64 t282, .int .i64 t283, .int .i64 t284], .int .i64 0, .agg #[.int .i64 2, .int .i64 0]] (by rfl) rfl rfl zq8 ?_
          with_reducible refine (glider_Dive.calls t259 t260 t261 t262 t263 t264 t265 _ _ t266 _ _ t269 t272 t273 t274 t275 t276 t277 t278 t281 t282 t283 t284 0 2 0 t285 t286 t287 t288 t289 _ ?side1 ?side2 ?side3 ?side4 A3.out).mono ?_
          (case side1 => repeat (first | exact (Kd.R_reads' HO268.out).2.2 | (with_reducible refine Kd.C_alloc ?_ _) | (with_reducible refine Kd.C_drewN ?_ _) | (with_reducible refine Kd.C_drew ?_)))
          (case side2 => exact (Kd.R_reads' HO268.out).2.1)
          (case side3 => repeat (first | exact (Kd.R_reads' HO271.out).2.2 | (with_reducible refine Kd.C_alloc ?_ _) | (with_reducible refine Kd.C_drewN ?_ _) | (with_reducible refine Kd.C_drew ?_)))
          (case side4 => exact (Kd.R_reads' HO271.out).2.1)
          rintro e w19 ⟨rfl, hb⟩
          refine ⟨_, rfl, ?_⟩
          replace HO268 := Aside0.mk (Kd.R_below zq37 hb)
          replace HO271 := Aside0.mk (Kd.R_below zq38 hb)
          replace BK279 := zbb BK279 hb
          replace BK280 := zbb BK280 hb
          replace BK290 := zbb BK290 hb
          replace HB := zbs HB hb
          (try clear hb)
          (try clear hb2)
          (try clear hk)
          (try clear hi)
          refine hK.out _ _ ⟨(blk_cell BK279.out 0).trans rfl, (blk_cell BK279.out 1).trans rfl, (blk_cell BK279.out 2).trans rfl, (blk_cell BK279.out 3).trans rfl, (blk_cell BK279.out 4).trans rfl, (blk_cell BK279.out 5).trans rfl, (blk_cell BK279.out 6).trans rfl, (blk_cell BK279.out 7).trans rfl, (blk_cell BK279.out 8).trans rfl, (blk_cell BK280.out 0).trans rfl, (blk_cell BK280.out 1).trans rfl, (blk_cell BK280.out 2).trans rfl, (blk_cell BK280.out 3).trans rfl, (blk_cell BK280.out 4).trans rfl, (blk_cell BK280.out 5).trans rfl, (blk_cell BK280.out 6).trans rfl⟩ (fun hHeld => ?_)
          clear hK K
          refine norm_ zq21 ?_
          refine zpz (i := 5) (N := some 11) (any_of HT_.out zq1) ?_
          refine zpz (i := 6) (N := some 17) (any_of HT_.out zq1) ?_
          refine zpz (i := 7) (N := some 18) (any_of HT_.out zq1) ?_
          exact norm_ zq41 (hCont (gb290) _ ⟨hHeld, zq37, zq38, (by (with_reducible repeat (first | refine blk_drewN ?_ _ | refine blk_drew ?_ | refine blk_alloc ?_ _)); exact BK279.out), (by (with_reducible repeat (first | refine blk_drewN ?_ _ | refine blk_drew ?_ | refine blk_alloc ?_ _)); exact BK280.out), (by (with_reducible repeat (first | refine blk_drewN ?_ _ | refine blk_drew ?_ | refine blk_alloc ?_ _)); exact BK290.out), GW290.out, GE290.out, NB279_290.out, NB290_279.out, NB280_290.out, NB290_280.out, zbz⟩)
      rintro gb290 w20 ⟨hS_, h0_, h1_, h2_, h3_, h4_, h5_, h6_, h7_, h8_, h9_, h10_, h11_⟩
      have n0_ : Aside0 (Kd.R Kd.bool 4 w20 w.heap.size (fun _ => True) (.slice Ao12 t266.length co12) t266) := ⟨h0_⟩
      have n1_ : Aside0 (Kd.R k40 40 w20 w.heap.size (fun _ => True) (.slice Ao13 t269.length co13) t269) := ⟨h1_⟩
      have n2_ : Aside0 (w20.heap[gb279]? = some (.cells #[.int .i64 t259, .int .i64 t260, .int .i64 t261, .int .i64 t262, .int .i64 t263, .int .i64 t264, .int .i64 t265, .slice Ao12 t266.length co12, .slice Ao13 t269.length co13] 25 (0, 0))) := ⟨h2_⟩
      have n3_ : Aside0 (w20.heap[gb280]? = some (.cells #[.int .i64 t272, .int .i64 t273, .int .i64 t274, .int .i64 t275, .int .i64 t276, .int .i64 t277, .int .i64 t278] 29 (0, 0))) := ⟨h3_⟩
      have n4_ : Aside0 (w20.heap[gb290]? = some (.cells #[.int .i64 0, .int .i64 0, .int .i64 0, .int .i64 0] 31 (0, 0))) := ⟨h4_⟩
      have n5_ : Aside0 (w.heap.size ≤ gb290) := ⟨h5_⟩
      have n6_ : Aside0 (w.heap.size ≤ gb290) := ⟨h6_⟩
      have n7_ : Aside0 (gb279 ≠ gb290) := ⟨h7_⟩
      have n8_ : Aside0 (gb290 ≠ gb279) := ⟨h8_⟩
      have n9_ : Aside0 (gb280 ≠ gb290) := ⟨h9_⟩
      have n10_ : Aside0 (gb290 ≠ gb280) := ⟨h10_⟩
      have n11_ : Aside0 (Below w.heap.size w w20) := ⟨h11_⟩
      clear HO268
      clear HO271
      clear BK279
      clear BK280
      clear HB
      clear h0_ h1_ h2_ h3_ h4_ h5_ h6_ h7_ h8_ h9_ h10_ h11_
      have HO268 := n0_
      have HO271 := n1_
      have BK279 := n2_
      have BK280 := n3_
      have BK290 := n4_
      have GW290 := n5_
      have GE290 := n6_
      have NB279_290 := n7_
      have NB290_279 := n8_
      have NB280_290 := n9_
      have NB290_280 := n10_
      have HB := n11_
      clear n0_ n1_ n2_ n3_ n4_ n5_ n6_ n7_ n8_ n9_ n10_ n11_
      have hHeld : w20.cell? ⟨gb279, 0, none⟩ = some (.int .i64 t259) ∧ w20.cell? ⟨gb279, 1, none⟩ = some (.int .i64 t260) ∧ w20.cell? ⟨gb279, 2, none⟩ = some (.int .i64 t261) ∧ w20.cell? ⟨gb279, 3, none⟩ = some (.int .i64 t262) ∧ w20.cell? ⟨gb279, 4, none⟩ = some (.int .i64 t263) ∧ w20.cell? ⟨gb279, 5, none⟩ = some (.int .i64 t264) ∧ w20.cell? ⟨gb279, 6, none⟩ = some (.int .i64 t265) ∧ w20.cell? ⟨gb279, 7, none⟩ = some (.slice Ao12 t266.length co12) ∧ w20.cell? ⟨gb279, 8, none⟩ = some (.slice Ao13 t269.length co13) ∧ w20.cell? ⟨gb280, 0, none⟩ = some (.int .i64 t272) ∧ w20.cell? ⟨gb280, 1, none⟩ = some (.int .i64 t273) ∧ w20.cell? ⟨gb280, 2, none⟩ = some (.int .i64 t274) ∧ w20.cell? ⟨gb280, 3, none⟩ = some (.int .i64 t275) ∧ w20.cell? ⟨gb280, 4, none⟩ = some (.int .i64 t276) ∧ w20.cell? ⟨gb280, 5, none⟩ = some (.int .i64 t277) ∧ w20.cell? ⟨gb280, 6, none⟩ = some (.int .i64 t278) := hS_
      refine norm_ (a' := ?_) ?_ ?_
      rotate_left
      · simp only [putAll, Act.put, List.setIfInBounds_toArray, List.set_cons_zero, List.set_cons_succ]
        rfl
      refine one_ (i := 9) (N := none) #[true, true, true, true, true, true, true, true, true, true, false] rfl rfl (one_of HT_.out zq1) (by decide) (fun K hK => ?_)
      have hs21 : w20.cell? ⟨gb290, 0, none⟩ = some (.int .i64 0) := (blk_cell BK290.out 0).trans rfl
      have hfs21 := blk_frozen BK290.out 0
      have hns21_0 := NB279_290.out
      have hns21_1 := NB280_290.out
      have hms21_0 := NB290_279.out
      have hms21_1 := NB290_280.out
      have hs22 : w20.cell? ⟨gb290, 1, none⟩ = some (.int .i64 0) := (blk_cell BK290.out 1).trans rfl
      have hfs22 := blk_frozen BK290.out 1
      have hns22_0 := NB279_290.out
      have hns22_1 := NB280_290.out
      have hms22_0 := NB290_279.out
      have hms22_1 := NB290_280.out
      have hs23 : w20.cell? ⟨gb290, 2, none⟩ = some (.int .i64 0) := (blk_cell BK290.out 2).trans rfl
      have hfs23 := blk_frozen BK290.out 2
      have hns23_0 := NB279_290.out
      have hns23_1 := NB280_290.out
      have hms23_0 := NB290_279.out
      have hms23_1 := NB290_280.out
      have hs24 : w20.cell? ⟨gb290, 3, none⟩ = some (.int .i64 0) := (blk_cell BK290.out 3).trans rfl
      have hfs24 := blk_frozen BK290.out 3
      have hns24_0 := NB279_290.out
      have hns24_1 := NB280_290.out
      have hms24_0 := NB290_279.out
      have hms24_1 := NB290_280.out
      refine skip_ (w1 := ?_) (by rfl) rfl ?_ ?_
      rotate_left
      · go_simp
        rfl
      refine hK.out _ _ ⟨((cell_far (p := ⟨gb290, _, none⟩) NB279_290.out _).trans (((cell_far (p := ⟨gb290, _, none⟩) NB279_290.out _).trans (((cell_far (p := ⟨gb290, _, none⟩) NB279_290.out _).trans (((cell_far (p := ⟨gb290, _, none⟩) NB279_290.out _).trans (hHeld.1)))))))), ((cell_far (p := ⟨gb290, _, none⟩) NB279_290.out _).trans (((cell_far (p := ⟨gb290, _, none⟩) NB279_290.out _).trans (((cell_far (p := ⟨gb290, _, none⟩) NB279_290.out _).trans (((cell_far (p := ⟨gb290, _, none⟩) NB279_290.out _).trans (hHeld.2.1)))))))), ((cell_far (p := ⟨gb290, _, none⟩) NB279_290.out _).trans (((cell_far (p := ⟨gb290, _, none⟩) NB279_290.out _).trans (((cell_far (p := ⟨gb290, _, none⟩) NB279_290.out _).trans (((cell_far (p := ⟨gb290, _, none⟩) NB279_290.out _).trans (hHeld.2.2.1)))))))), ((cell_far (p := ⟨gb290, _, none⟩) NB279_290.out _).trans (((cell_far (p := ⟨gb290, _, none⟩) NB279_290.out _).trans (((cell_far (p := ⟨gb290, _, none⟩) NB279_290.out _).trans (((cell_far (p := ⟨gb290, _, none⟩) NB279_290.out _).trans (hHeld.2.2.2.1)))))))), ((cell_far (p := ⟨gb290, _, none⟩) NB279_290.out _).trans (((cell_far (p := ⟨gb290, _, none⟩) NB279_290.out _).trans (((cell_far (p := ⟨gb290, _, none⟩) NB279_290.out _).trans (((cell_far (p := ⟨gb290, _, none⟩) NB279_290.out _).trans (hHeld.2.2.2.2.1)))))))), ((cell_far (p := ⟨gb290, _, none⟩) NB279_290.out _).trans (((cell_far (p := ⟨gb290, _, none⟩) NB279_290.out _).trans (((cell_far (p := ⟨gb290, _, none⟩) NB279_290.out _).trans (((cell_far (p := ⟨gb290, _, none⟩) NB279_290.out _).trans (hHeld.2.2.2.2.2.1)))))))), ((cell_far (p := ⟨gb290, _, none⟩) NB279_290.out _).trans (((cell_far (p := ⟨gb290, _, none⟩) NB279_290.out _).trans (((cell_far (p := ⟨gb290, _, none⟩) NB279_290.out _).trans (((cell_far (p := ⟨gb290, _, none⟩) NB279_290.out _).trans (hHeld.2.2.2.2.2.2.1)))))))), ((cell_far (p := ⟨gb290, _, none⟩) NB279_290.out _).trans (((cell_far (p := ⟨gb290, _, none⟩) NB279_290.out _).trans (((cell_far (p := ⟨gb290, _, none⟩) NB279_290.out _).trans (((cell_far (p := ⟨gb290, _, none⟩) NB279_290.out _).trans (hHeld.2.2.2.2.2.2.2.1)))))))), ((cell_far (p := ⟨gb290, _, none⟩) NB279_290.out _).trans (((cell_far (p := ⟨gb290, _, none⟩) NB279_290.out _).trans (((cell_far (p := ⟨gb290, _, none⟩) NB279_290.out _).trans (((cell_far (p := ⟨gb290, _, none⟩) NB279_290.out _).trans (hHeld.2.2.2.2.2.2.2.2.1)))))))), ((cell_far (p := ⟨gb290, _, none⟩) NB280_290.out _).trans (((cell_far (p := ⟨gb290, _, none⟩) NB280_290.out _).trans (((cell_far (p := ⟨gb290, _, none⟩) NB280_290.out _).trans (((cell_far (p := ⟨gb290, _, none⟩) NB280_290.out _).trans (hHeld.2.2.2.2.2.2.2.2.2.1)))))))), ((cell_far (p := ⟨gb290, _, none⟩) NB280_290.out _).trans (((cell_far (p := ⟨gb290, _, none⟩) NB280_290.out _).trans (((cell_far (p := ⟨gb290, _, none⟩) NB280_290.out _).trans (((cell_far (p := ⟨gb290, _, none⟩) NB280_290.out _).trans (hHeld.2.2.2.2.2.2.2.2.2.2.1)))))))), ((cell_far (p := ⟨gb290, _, none⟩) NB280_290.out _).trans (((cell_far (p := ⟨gb290, _, none⟩) NB280_290.out _).trans (((cell_far (p := ⟨gb290, _, none⟩) NB280_290.out _).trans (((cell_far (p := ⟨gb290, _, none⟩) NB280_290.out _).trans (hHeld.2.2.2.2.2.2.2.2.2.2.2.1)))))))), ((cell_far (p := ⟨gb290, _, none⟩) NB280_290.out _).trans (((cell_far (p := ⟨gb290, _, none⟩) NB280_290.out _).trans (((cell_far (p := ⟨gb290, _, none⟩) NB280_290.out _).trans (((cell_far (p := ⟨gb290, _, none⟩) NB280_290.out _).trans (hHeld.2.2.2.2.2.2.2.2.2.2.2.2.1)))))))), ((cell_far (p := ⟨gb290, _, none⟩) NB280_290.out _).trans (((cell_far (p := ⟨gb290, _, none⟩) NB280_290.out _).trans (((cell_far (p := ⟨gb290, _, none⟩) NB280_290.out _).trans (((cell_far (p := ⟨gb290, _, none⟩) NB280_290.out _).trans (hHeld.2.2.2.2.2.2.2.2.2.2.2.2.2.1)))))))), ((cell_far (p := ⟨gb290, _, none⟩) NB280_290.out _).trans (((cell_far (p := ⟨gb290, _, none⟩) NB280_290.out _).trans (((cell_far (p := ⟨gb290, _, none⟩) NB280_290.out _).trans (((cell_far (p := ⟨gb290, _, none⟩) NB280_290.out _).trans (hHeld.2.2.2.2.2.2.2.2.2.2.2.2.2.2.1)))))))), ((cell_far (p := ⟨gb290, _, none⟩) NB280_290.out _).trans (((cell_far (p := ⟨gb290, _, none⟩) NB280_290.out _).trans (((cell_far (p := ⟨gb290, _, none⟩) NB280_290.out _).trans (((cell_far (p := ⟨gb290, _, none⟩) NB280_290.out _).trans (hHeld.2.2.2.2.2.2.2.2.2.2.2.2.2.2.2))))))))⟩ (fun hHeld => ?_)
      clear hK K
      refine zpz (i := 10) (N := some 4) (any_of HT_.out zq1) ?_
      refine done_ (done_of HT_.out zq1) ?_
      have hnb25 := NB280_290.out
      have hnc25 := NB290_280.out
      obtain ⟨hcz26_0, hcz26_1, hcz26_2, hcz26_3, hcz26_4, hcz26_5, hcz26_6, hfz26_0, hfz26_1, hfz26_2, hfz26_3, hfz26_4, hfz26_5, hfz26_6⟩ := zce7 BK280.out
      try go_wp2_with (((with_reducible refine gate_callee (f := 37) rfl ?_); refine goesL_ (some 22) rfl rfl Try.func37 zq1 rfl #[.agg #[.int .i64 t272, .int .i64 t273, .int .i64 t274, .int .i64 t275, .int .i64 t276, .int .i64 t277, .int .i64 t278], .agg #[.int .i64 300, .int .i64 310]] rfl zq8 ?_; (with_reducible refine (glider_Lasts.calls k t272 t273 t274 t275 t276 t277 t278 300 310 t291 t292 _ A4.out).mono ?_); rintro e w27 ⟨rfl, hb⟩; refine ⟨_, rfl, ?_⟩; have n0_ := Aside0.mk (Kd.R_below (by (with_reducible repeat (first | apply Kd.R_alloc | apply Kd.R_drewN | apply Kd.R_drew)); exact (Kd.R_mono (Kd.R_far (p := ⟨gb290, 3, none⟩) (Kd.R_far (p := ⟨gb290, 2, none⟩) (Kd.R_far (p := ⟨gb290, 1, none⟩) (Kd.R_far (p := ⟨gb290, 0, none⟩) (Kd.R_types HO268.out BK290.out (by decide)) (fun _ hk => hk.2) (.int .i64 t285)) (fun _ hk => hk.2) (.int .i64 t286)) (fun _ hk => hk.2) (.int .i64 t287)) (fun _ hk => hk.2) (.int .i64 t288)) (fun _ h_ => h_.1))) hb); have n1_ := Aside0.mk (Kd.R_below (by (with_reducible repeat (first | apply Kd.R_alloc | apply Kd.R_drewN | apply Kd.R_drew)); exact (Kd.R_mono (Kd.R_far (p := ⟨gb290, 3, none⟩) (Kd.R_far (p := ⟨gb290, 2, none⟩) (Kd.R_far (p := ⟨gb290, 1, none⟩) (Kd.R_far (p := ⟨gb290, 0, none⟩) (Kd.R_types HO271.out BK290.out (by decide)) (fun _ hk => hk.2) (.int .i64 t285)) (fun _ hk => hk.2) (.int .i64 t286)) (fun _ hk => hk.2) (.int .i64 t287)) (fun _ hk => hk.2) (.int .i64 t288)) (fun _ h_ => h_.1))) hb); have n2_ := Aside0.mk (blk_below (g := gb279) (o := .cells #[.int .i64 t259, .int .i64 t260, .int .i64 t261, .int .i64 t262, .int .i64 t263, .int .i64 t264, .int .i64 t265, .slice Ao12 t266.length co12, .slice Ao13 t269.length co13] 25 (0, 0)) (by (with_reducible repeat (first | refine blk_drewN ?_ _ | refine blk_drew ?_ | refine blk_alloc ?_ _)); refine blk_far ?_ NB279_290.out _; (with_reducible repeat (first | refine blk_drewN ?_ _ | refine blk_drew ?_ | refine blk_alloc ?_ _)); refine blk_far ?_ NB279_290.out _; (with_reducible repeat (first | refine blk_drewN ?_ _ | refine blk_drew ?_ | refine blk_alloc ?_ _)); refine blk_far ?_ NB279_290.out _; (with_reducible repeat (first | refine blk_drewN ?_ _ | refine blk_drew ?_ | refine blk_alloc ?_ _)); refine blk_far ?_ NB279_290.out _; (with_reducible repeat (first | refine blk_drewN ?_ _ | refine blk_drew ?_ | refine blk_alloc ?_ _)); exact BK279.out) hb); have n3_ := Aside0.mk (blk_below (g := gb280) (o := .cells #[.int .i64 t272, .int .i64 t273, .int .i64 t274, .int .i64 t275, .int .i64 t276, .int .i64 t277, .int .i64 t278] 29 (0, 0)) (by (with_reducible repeat (first | refine blk_drewN ?_ _ | refine blk_drew ?_ | refine blk_alloc ?_ _)); refine blk_far ?_ NB280_290.out _; (with_reducible repeat (first | refine blk_drewN ?_ _ | refine blk_drew ?_ | refine blk_alloc ?_ _)); refine blk_far ?_ NB280_290.out _; (with_reducible repeat (first | refine blk_drewN ?_ _ | refine blk_drew ?_ | refine blk_alloc ?_ _)); refine blk_far ?_ NB280_290.out _; (with_reducible repeat (first | refine blk_drewN ?_ _ | refine blk_drew ?_ | refine blk_alloc ?_ _)); refine blk_far ?_ NB280_290.out _; (with_reducible repeat (first | refine blk_drewN ?_ _ | refine blk_drew ?_ | refine blk_alloc ?_ _)); exact BK280.out) hb); have n4_ := Aside0.mk (blk_below (g := gb290) (o := .cells #[.int .i64 t285, .int .i64 t286, .int .i64 t287, .int .i64 t288] 31 (0, 0)) (by (with_reducible repeat (first | refine blk_drewN ?_ _ | refine blk_drew ?_ | refine blk_alloc ?_ _)); refine blk_put (cs := #[.int .i64 t285, .int .i64 t286, .int .i64 t287, .int .i64 0]) ?_ 3 _ rfl; (with_reducible repeat (first | refine blk_drewN ?_ _ | refine blk_drew ?_ | refine blk_alloc ?_ _)); refine blk_put (cs := #[.int .i64 t285, .int .i64 t286, .int .i64 0, .int .i64 0]) ?_ 2 _ rfl; (with_reducible repeat (first | refine blk_drewN ?_ _ | refine blk_drew ?_ | refine blk_alloc ?_ _)); refine blk_put (cs := #[.int .i64 t285, .int .i64 0, .int .i64 0, .int .i64 0]) ?_ 1 _ rfl; (with_reducible repeat (first | refine blk_drewN ?_ _ | refine blk_drew ?_ | refine blk_alloc ?_ _)); refine blk_put (cs := #[.int .i64 0, .int .i64 0, .int .i64 0, .int .i64 0]) ?_ 0 _ rfl; (with_reducible repeat (first | refine blk_drewN ?_ _ | refine blk_drew ?_ | refine blk_alloc ?_ _)); exact BK290.out) hb); have n5_ := zbs HB hb; clear HO268; clear HO271; clear BK279; clear BK280; clear BK290; clear HB; have HO268 := n0_; have HO271 := n1_; have BK279 := n2_; have BK280 := n3_; have BK290 := n4_; have HB := n5_; clear n0_ n1_ n2_ n3_ n4_ n5_; (try clear hb); (try clear hb2); (try clear hk); (try clear hi); have hnb28 := NB290_279.out; have hnc28 := NB279_290.out; obtain ⟨hcz29_0, hcz29_1, hcz29_2, hcz29_3, hfz29_0, hfz29_1, hfz29_2, hfz29_3⟩ := zce4 BK290.out))
      go_ret
      exact ⟨zq6, zbz⟩
    · rw [if_neg c6] at H
      have c6b0 : (t291 == 3) = false := beq_eq_false_iff_ne.mpr c6
      have c6b1 : (t291 != 3) = true := bne_iff_ne.mpr c6
      have hh_ := Option.some.inj H
      rw [hr_.out] at hh_
      cases hh_
  · rw [if_neg c5] at H
    have c5b0 : ((wrap64 (t289 + t292)) == 0) = false := beq_eq_false_iff_ne.mpr c5
    have c5b1 : ((wrap64 (t289 + t292)) != 0) = true := bne_iff_ne.mpr c5
    have hh_ := Option.some.inj H
    rw [hr_.out] at hh_
    cases hh_

end Go.Proofs.Ytmhaiihjfgfaoaa.Pr
end
section
/- Runs, as the program makes them. -/
namespace Go.Proofs.Ytmhaiihjfgfaoaa.Gl
open Go.RowKit Go.Shelf Go.Proofs.YtmhaiihjfgfaoaaW.PrintWords Go.Proofs.YtmhaiihjfgfaoaaW.PrintLast Go.Proofs.YtmhaiihjfgfaoaaW.PrintMore Go.Proofs.Ytmhaiihjfgfaoaa.Pr Go.Proofs.YtmhaiihjfgfaoaaW.Round
set_option linter.unusedVariables false
set_option linter.unusedSimpArgs false
attribute [local go_sem] max2_int min2_int max_two min_two max_four
theorem crsE_ok {l : List S33} {layers : Int} (h : crsE l layers = 0) : l.length ≤ 64 ∧ l.all (crsB layers) = true := by
  unfold crsE at h
  by_cases h1 : l.length > 64
  · rw [if_pos h1] at h; cases h
  · rw [if_neg h1] at h
    cases hb : l.all (crsB layers) with
    | false => rw [hb] at h; cases h
    | true => exact ⟨by omega, rfl⟩
end Go.Proofs.Ytmhaiihjfgfaoaa.Gl
end
section
namespace Go.Proofs.Ytmhaiihjfgfaoaa.Pr
open Go.RowKit Go.Proofs.YtmhaiihjfgfaoaaW.PrintWords Go.Proofs.YtmhaiihjfgfaoaaW.PrintLast Go.Proofs.YtmhaiihjfgfaoaaW.PrintMore
attribute [local go_sem] max2_int min2_int max_two min_two max_four
set_option linter.unusedVariables false
set_option linter.unusedSimpArgs false

/-! ### glider_takes: function 109 -/
def glider_takes.f (a0_0 : Int) (a0_1 : Int) (a0_2 : Int) (a0_3 : Int) (a0_4 : Int) (a0_5 : Int) (a0_6 : Int) (a1_0 : Int) (a1_1 : Int) : Option (Int × Int) := if a1_0 = 8 then (some (a0_4, a0_5)) else (some (a0_2, a0_3))
set_option maxHeartbeats 8000000 in
set_option maxRecDepth 100000 in
theorem glider_takes.calls (a0_0 : Int) (a0_1 : Int) (a0_2 : Int) (a0_3 : Int) (a0_4 : Int) (a0_5 : Int) (a0_6 : Int) (a1_0 : Int) (a1_1 : Int) (r1 : Int) (r2 : Int) (w : World) (h : glider_takes.f a0_0 a0_1 a0_2 a0_3 a0_4 a0_5 a0_6 a1_0 a1_1 = some (r1, r2)) :
    Calls Try.prog 109 #[.agg #[.int .i64 a0_0, .int .i64 a0_1, .int .i64 a0_2, .int .i64 a0_3, .int .i64 a0_4, .int .i64 a0_5, .int .i64 a0_6], .agg #[.int .i64 a1_0, .int .i64 a1_1]] w fun e w' => e = .returned (.agg #[.int .i64 r1, .int .i64 r2]) ∧ Below w.heap.size w w' := by
  have hu29 := Try.underlying29
  have hu33 := Try.underlying33
  have hu27 := Try.underlying27
  have HB := Aside0.mk (Below.refl w.heap.size w)
  have H : (if a1_0 = 8 then (some (a0_4, a0_5)) else (some (a0_2, a0_3))) = some (r1, r2) := h
  clear h
  by_cases c3 : a1_0 = 8
  · rw [if_pos c3] at H
    have c3b0 : (a1_0 == 8) = true := beq_iff_eq.mpr c3
    have c3b1 : (a1_0 != 8) = false := bne_eq_false_iff_eq.mpr c3
    clear c3
    simp only [Option.some.injEq, Prod.mk.injEq] at H
    obtain ⟨rfl, rfl⟩ := H
    go_enter Try.func109, Try.ntmps109
    go_wp2_with (first | ((with_reducible refine gate_dst (N := 2) rfl ?_); refine box_event (by rfl) (N := 2) (by rfl) (cs := #[.int .i64 a0_0, .int .i64 a0_1, .int .i64 a0_2, .int .i64 a0_3, .int .i64 a0_4, .int .i64 a0_5, .int .i64 a0_6]) (t := 29) zq5 ?_; intro gb594 hg w4 hbox hb; have BK594 := Aside0.mk (hbox); have GW594 := zgs HB hg; have GE594 := zgs HB hg; replace HB := zbs HB hb; clear hb hbox hg) | ((with_reducible refine gate_dst (N := 3) rfl ?_); refine box_event (by rfl) (N := 3) (by rfl) (cs := #[.int .i64 a1_0, .int .i64 a1_1]) (t := 33) zq5 ?_; intro gb595 hg w5 hbox hb; have BK595 := Aside0.mk (hbox); have GW595 := zgs HB hg; have GE595 := zgs HB hg; have NB594_595 := znp BK594 hg; have NB595_594 := znq BK594 hg; replace BK594 := zbb BK594 hb; replace HB := zbs HB hb; clear hb hbox hg) | ((with_reducible refine gate_dst (N := 4) rfl ?_); refine box_event (by rfl) (N := 4) (by rfl) (cs := #[.int .i64 0, .int .i64 0]) (t := 27) zq5 ?_; intro gb596 hg w6 hbox hb; have BK596 := Aside0.mk (hbox); have GW596 := zgs HB hg; have GE596 := zgs HB hg; have NB594_596 := znp BK594 hg; have NB596_594 := znq BK594 hg; have NB595_596 := znp BK595 hg; have NB596_595 := znq BK595 hg; replace BK594 := zbb BK594 hb; replace BK595 := zbb BK595 hb; replace HB := zbs HB hb; clear hb hbox hg; have hnb7 := NB595_594.out; have hnc7 := NB594_595.out; have hnb8 := NB595_596.out; have hnc8 := NB596_595.out; obtain ⟨hcz9_0, hcz9_1, hfz9_0, hfz9_1⟩ := zce2 BK595.out; have hnb10 := NB594_596.out; have hnc10 := NB596_594.out; obtain ⟨hcz11_0, hcz11_1, hcz11_2, hcz11_3, hcz11_4, hcz11_5, hcz11_6, hfz11_0, hfz11_1, hfz11_2, hfz11_3, hfz11_4, hfz11_5, hfz11_6⟩ := zce7 BK594.out; obtain ⟨hcz12_0, hcz12_1, hfz12_0, hfz12_1⟩ := zce2 BK596.out))
    refine bodyPost_ret (results_cell_row rfl _ _ gb596 27 #[.int .i64 a0_4, .int .i64 a0_5] (0, 0) _ rfl (by (with_reducible repeat (first | refine blk_drewN ?_ _ | refine blk_drew ?_ | refine blk_alloc ?_ _)); refine blk_put (cs := #[.int .i64 a0_4, .int .i64 0]) ?_ 1 _ rfl; (with_reducible repeat (first | refine blk_drewN ?_ _ | refine blk_drew ?_ | refine blk_alloc ?_ _)); refine blk_put (cs := #[.int .i64 0, .int .i64 0]) ?_ 0 _ rfl; (with_reducible repeat (first | refine blk_drewN ?_ _ | refine blk_drew ?_ | refine blk_alloc ?_ _)); exact BK596.out) Try.underlying27 rfl zq1) rfl ?_
    exact ⟨zq6, zbz⟩
  · rw [if_neg c3] at H
    have c3b0 : (a1_0 == 8) = false := beq_eq_false_iff_ne.mpr c3
    have c3b1 : (a1_0 != 8) = true := bne_iff_ne.mpr c3
    simp only [Option.some.injEq, Prod.mk.injEq] at H
    obtain ⟨rfl, rfl⟩ := H
    go_enter Try.func109, Try.ntmps109
    go_wp2_with (first | ((with_reducible refine gate_dst (N := 2) rfl ?_); refine box_event (by rfl) (N := 2) (by rfl) (cs := #[.int .i64 a0_0, .int .i64 a0_1, .int .i64 a0_2, .int .i64 a0_3, .int .i64 a0_4, .int .i64 a0_5, .int .i64 a0_6]) (t := 29) zq5 ?_; intro gb594 hg w13 hbox hb; have BK594 := Aside0.mk (hbox); have GW594 := zgs HB hg; have GE594 := zgs HB hg; replace HB := zbs HB hb; clear hb hbox hg) | ((with_reducible refine gate_dst (N := 3) rfl ?_); refine box_event (by rfl) (N := 3) (by rfl) (cs := #[.int .i64 a1_0, .int .i64 a1_1]) (t := 33) zq5 ?_; intro gb595 hg w14 hbox hb; have BK595 := Aside0.mk (hbox); have GW595 := zgs HB hg; have GE595 := zgs HB hg; have NB594_595 := znp BK594 hg; have NB595_594 := znq BK594 hg; replace BK594 := zbb BK594 hb; replace HB := zbs HB hb; clear hb hbox hg) | ((with_reducible refine gate_dst (N := 4) rfl ?_); refine box_event (by rfl) (N := 4) (by rfl) (cs := #[.int .i64 0, .int .i64 0]) (t := 27) zq5 ?_; intro gb596 hg w15 hbox hb; have BK596 := Aside0.mk (hbox); have GW596 := zgs HB hg; have GE596 := zgs HB hg; have NB594_596 := znp BK594 hg; have NB596_594 := znq BK594 hg; have NB595_596 := znp BK595 hg; have NB596_595 := znq BK595 hg; replace BK594 := zbb BK594 hb; replace BK595 := zbb BK595 hb; replace HB := zbs HB hb; clear hb hbox hg; have hnb16 := NB595_594.out; have hnc16 := NB594_595.out; have hnb17 := NB595_596.out; have hnc17 := NB596_595.out; obtain ⟨hcz18_0, hcz18_1, hfz18_0, hfz18_1⟩ := zce2 BK595.out; have hnb19 := NB594_596.out; have hnc19 := NB596_594.out; obtain ⟨hcz20_0, hcz20_1, hcz20_2, hcz20_3, hcz20_4, hcz20_5, hcz20_6, hfz20_0, hfz20_1, hfz20_2, hfz20_3, hfz20_4, hfz20_5, hfz20_6⟩ := zce7 BK594.out; obtain ⟨hcz21_0, hcz21_1, hfz21_0, hfz21_1⟩ := zce2 BK596.out))
    refine bodyPost_ret (results_cell_row rfl _ _ gb596 27 #[.int .i64 a0_2, .int .i64 a0_3] (0, 0) _ rfl (by (with_reducible repeat (first | refine blk_drewN ?_ _ | refine blk_drew ?_ | refine blk_alloc ?_ _)); refine blk_put (cs := #[.int .i64 a0_2, .int .i64 0]) ?_ 1 _ rfl; (with_reducible repeat (first | refine blk_drewN ?_ _ | refine blk_drew ?_ | refine blk_alloc ?_ _)); refine blk_put (cs := #[.int .i64 0, .int .i64 0]) ?_ 0 _ rfl; (with_reducible repeat (first | refine blk_drewN ?_ _ | refine blk_drew ?_ | refine blk_alloc ?_ _)); exact BK596.out) Try.underlying27 rfl zq1) rfl ?_
    exact ⟨zq6, zbz⟩

end Go.Proofs.Ytmhaiihjfgfaoaa.Pr
end
section
/- The energy that is left, as the program reckons it. -/
namespace Go.Proofs.Ytmhaiihjfgfaoaa.Gl
open Go.RowKit Go.Shelf Go.Proofs.YtmhaiihjfgfaoaaW.PrintWords Go.Proofs.YtmhaiihjfgfaoaaW.PrintLast Go.Proofs.YtmhaiihjfgfaoaaW.PrintMore Go.Proofs.Ytmhaiihjfgfaoaa.Pr Go.Proofs.YtmhaiihjfgfaoaaW.Round
set_option linter.unusedVariables false
set_option linter.unusedSimpArgs false
attribute [local go_sem] max2_int min2_int max_two min_two max_four
/-- The energy that a dive takes. -/
def takeI (v : Veh) (c : S33) : S27 := if c.f0 = 8 then v.drift else v.use
theorem takes_any (v : Veh) (c : S33) (w : World) : Calls Try.prog 109 #[.agg #[.int .i64 v.speed, .int .i64 v.dive, .int .i64 v.use.f0, .int .i64 v.use.f1, .int .i64 v.drift.f0, .int .i64 v.drift.f1, .int .i64 v.reserve], .agg #[.int .i64 c.f0, .int .i64 c.f1]] w (RetB (.agg #[.int .i64 (takeI v c).f0, .int .i64 (takeI v c).f1]) w) :=
  glider_takes.calls _ _ _ _ _ _ _ _ _ (takeI v c).f0 (takeI v c).f1 w (by unfold glider_takes.f takeI; split <;> rfl)
/-- The energies that are left, how many, and the error. -/
def enI (v : Veh) : List S33 → S27 → Int → List S27 → List S27 × Int × Int
  | [], _, n, out => (out, n, 0)
  | c :: l, e, n, out => if e.f0 - (takeI v c).f1 < v.reserve then ([], n, 19) else enI v l ⟨e.f0 - (takeI v c).f1, e.f1 - (takeI v c).f0⟩ (n + 1) (out ++ [⟨e.f0 - (takeI v c).f1, e.f1 - (takeI v c).f0⟩])
def EnPost (R : List S27 × Int × Int) (w : World) (e : Ending) (w' : World) : Prop := ∃ v0_ : Value, e = .returned (.tuple #[v0_, .int .i64 R.2.1, .int .i64 R.2.2]) ∧ Kd.R k27 27 w' w.heap.size (fun _ => True) v0_ R.1 ∧ Below w.heap.size w w'
theorem vehB_use {v : Veh} (h : vehB v = true) (c : S33) : 0 ≤ (takeI v c).f0 ∧ (takeI v c).f0 ≤ (takeI v c).f1 ∧ (takeI v c).f1 ≤ 1073741824 := by
  unfold vehB at h
  simp only [Bool.and_eq_true, bndB_iff] at h
  unfold takeI
  split
  · omega
  · omega
theorem vehB_res {v : Veh} (h : vehB v = true) : 0 ≤ v.reserve ∧ v.reserve ≤ 1073741824 := by
  unfold vehB at h
  simp only [Bool.and_eq_true, btwB_iff] at h
  exact h.2
set_option maxRecDepth 100000 in
set_option maxHeartbeats 8000000 in
theorem energy_any (v : Veh) (e : S27) (A : Option Addr) (c : Nat) (l : List S33) (w : World) (hv : vehB v = true) (he : bndB e.f0 e.f1 0 1073741824 = true) (hC : Kd.C k33 w A l.length l) (hc : l.length ≤ c) (hl : l.length ≤ 64) :
    Calls Try.prog 85 #[.agg #[.int .i64 v.speed, .int .i64 v.dive, .int .i64 v.use.f0, .int .i64 v.use.f1, .int .i64 v.drift.f0, .int .i64 v.drift.f1, .int .i64 v.reserve], .agg #[.int .i64 e.f0, .int .i64 e.f1], .slice A l.length c] w (EnPost (enI v l e 0 []) w) := by
  have hu33 := Try.underlying33
  have hu27 := Try.underlying27
  have hu29 := Try.underlying29
  have he' := bndB_iff.1 he
  have hres := vehB_res hv
  have HV := Lib.hid hv
  clear hv he
  go_enter Try.func85, Try.ntmps85
  go_wp2_with fail
  have m3 : Blk ((w.alloc (.cells #[.int .i64 v.speed, .int .i64 v.dive, .int .i64 v.use.f0, .int .i64 v.use.f1, .int .i64 v.drift.f0, .int .i64 v.drift.f1, .int .i64 v.reserve] 29)).alloc (.cells #[.int .i64 e.f0, .int .i64 e.f1] 27)) (w.heap.size) #[.int .i64 v.speed, .int .i64 v.dive, .int .i64 v.use.f0, .int .i64 v.use.f1, .int .i64 v.drift.f0, .int .i64 v.drift.f1, .int .i64 v.reserve] 29 := (blk_alloc (by have h_ := blk_new w (.cells #[.int .i64 v.speed, .int .i64 v.dive, .int .i64 v.use.f0, .int .i64 v.use.f1, .int .i64 v.drift.f0, .int .i64 v.drift.f1, .int .i64 v.reserve] 29); first | exact h_ | (simp only [World.size_alloc] at h_; exact h_)) _)
  have m4 : Blk ((w.alloc (.cells #[.int .i64 v.speed, .int .i64 v.dive, .int .i64 v.use.f0, .int .i64 v.use.f1, .int .i64 v.drift.f0, .int .i64 v.drift.f1, .int .i64 v.reserve] 29)).alloc (.cells #[.int .i64 e.f0, .int .i64 e.f1] 27)) (w.heap.size + 1) #[.int .i64 e.f0, .int .i64 e.f1] 27 := (by have h_ := blk_new (w.alloc (.cells #[.int .i64 v.speed, .int .i64 v.dive, .int .i64 v.use.f0, .int .i64 v.use.f1, .int .i64 v.drift.f0, .int .i64 v.drift.f1, .int .i64 v.reserve] 29)) (.cells #[.int .i64 e.f0, .int .i64 e.f1] 27); first | exact h_ | (simp only [World.size_alloc] at h_; exact h_))
  have mB : Below w.heap.size w ((w.alloc (.cells #[.int .i64 v.speed, .int .i64 v.dive, .int .i64 v.use.f0, .int .i64 v.use.f1, .int .i64 v.drift.f0, .int .i64 v.drift.f1, .int .i64 v.reserve] 29)).alloc (.cells #[.int .i64 e.f0, .int .i64 e.f1] 27)) := (below_alloc (below_alloc (Below.refl w.heap.size w) _) _)
  have hsz_ : w.heap.size ≤ w.heap.size := Nat.le_refl _
  generalize hW_ : ((w.alloc (.cells #[.int .i64 v.speed, .int .i64 v.dive, .int .i64 v.use.f0, .int .i64 v.use.f1, .int .i64 v.drift.f0, .int .i64 v.drift.f1, .int .i64 v.reserve] 29)).alloc (.cells #[.int .i64 e.f0, .int .i64 e.f1] 27)) = W1 at m3 m4 mB ⊢
  clear hW_
  generalize hg3 : w.heap.size = g3 at m3 m4 ⊢
  have hG3 : w.heap.size ≤ g3 := by omega
  generalize hg4 : g3 + 1 = g4 at m4 ⊢
  have hn_3_4 : g3 ≠ g4 := by omega
  have hn_4_3 : g4 ≠ g3 := hn_3_4.symm
  have hG4 : w.heap.size ≤ g4 := by omega
  clear hsz_
  try clear hg4
  try clear hg3
  have hs_W1 : w.heap.size ≤ W1.heap.size := mB.size
  go_wp2
  go_loopw [9, 15] (fun o i wr => ∃ (k : Nat) (v_ : Value) (E : S27) (out : List S27), v_ = o ∧ i = .int .i64 k ∧ k ≤ l.length ∧ Hid (enI v l e 0 [] = enI v (l.drop k) E k out) ∧ Hid (out.length = k ∧ 0 ≤ E.f0 ∧ E.f0 ≤ E.f1 ∧ E.f1 ≤ 1073741824) ∧ Blk wr g3 #[.int .i64 v.speed, .int .i64 v.dive, .int .i64 v.use.f0, .int .i64 v.use.f1, .int .i64 v.drift.f0, .int .i64 v.drift.f1, .int .i64 v.reserve] 29 ∧ Blk wr g4 #[.int .i64 E.f0, .int .i64 E.f1] 27 ∧ Kd.R k27 27 wr w.heap.size (fun q => q ≠ g4) v_ out ∧ Below w.heap.size w wr) (fun _ i _ => l.length - (intOf i).toNat)
  case atStart => exact ⟨0, _, e, [], rfl, rfl, Nat.zero_le _, Lib.hid rfl, Lib.hid ⟨rfl, by omega, by omega, by omega⟩, m3, m4, Kd.R_nil _ _ _ _ _, mB⟩
  case round =>
    clear m3 m4 mB he'
    obtain ⟨k, v_, E, out, rfl, rfl, hk, HR, HQ, m3, m4, HO, mB⟩ := hrel
    have hs_wr : w.heap.size ≤ wr.heap.size := mB.size
    by_cases hlt : k < l.length
    case neg =>
      obtain rfl : k = l.length := by omega
      have HE := HR.out
      rw [List.drop_length] at HE
      have HE2 : Hid (enI v l e 0 [] = (out, (l.length : Int), 0)) := Lib.hid HE
      clear HE HR HQ
      go_wp2
      go_ret3
      exact ⟨_, by rw [HE2.out]; rfl, by rw [HE2.out]; exact Kd.R_mono HO (fun _ _ => trivial), mB⟩
    case pos =>
      obtain ⟨ad_, e_, hx0, hx1⟩ := at_T33 hC k (by omega) (by omega)
      cases e_
      simp only [Int.toNat_natCast] at hx0 hx1
      replace hx0 := (mB.cell (World.block_lt_of_cell? w _ hx0)).trans hx0
      replace hx1 := (mB.cell (World.block_lt_of_cell? w _ hx1)).trans hx1
      have hdr : l.drop k = rd_T33 l (k : Int) :: l.drop (k + 1) := by rw [List.drop_eq_getElem_cons hlt]; simp [rd_T33, List.getD_eq_getElem?_getD, hlt]
      generalize rd_T33 l (k : Int) = d at *
      have hus := vehB_use HV.out d
      have HR2 : Hid (enI v l e 0 [] = if E.f0 - (takeI v d).f1 < v.reserve then ([], (k : Int), 19) else enI v (l.drop (k + 1)) ⟨E.f0 - (takeI v d).f1, E.f1 - (takeI v d).f0⟩ ((k : Int) + 1) (out ++ [⟨E.f0 - (takeI v d).f1, E.f1 - (takeI v d).f0⟩])) := Lib.hid (by rw [HR.out, hdr]; rfl)
      clear HR hdr
      have kT := fun W => takes_any v d W
      generalize takeI v d = x at *
      obtain ⟨hol, hE0, hE1, hE2⟩ := HQ.out
      clear HQ
      have hw0 : wrap64 (E.f0 - x.f1) = E.f0 - x.f1 := by unfold wrap64; omega
      have hw1 : wrap64 (E.f1 - x.f0) = E.f1 - x.f0 := by unfold wrap64; omega
      have HQ1 : Hid (out.length = k ∧ 0 ≤ E.f0 ∧ E.f0 ≤ E.f1 ∧ E.f1 ≤ 1073741824 ∧ 0 ≤ x.f0 ∧ x.f0 ≤ x.f1 ∧ x.f1 ≤ 1073741824 ∧ wrap64 (E.f0 - x.f1) = E.f0 - x.f1 ∧ wrap64 (E.f1 - x.f0) = E.f1 - x.f0) := Lib.hid ⟨hol, hE0, hE1, hE2, hus.1, hus.2.1, hus.2.2, hw0, hw1⟩
      clear hol hE0 hE1 hE2 hus hw0 hw1
      have c3_0 : ∀ o_, (wr.alloc o_).cell? ⟨g3, 0, none⟩ = some (.int .i64 v.speed) := fun o_ => (blk_cell (blk_alloc m3 o_) 0).trans rfl
      have c3_1 : ∀ o_, (wr.alloc o_).cell? ⟨g3, 1, none⟩ = some (.int .i64 v.dive) := fun o_ => (blk_cell (blk_alloc m3 o_) 1).trans rfl
      have c3_2 : ∀ o_, (wr.alloc o_).cell? ⟨g3, 2, none⟩ = some (.int .i64 v.use.f0) := fun o_ => (blk_cell (blk_alloc m3 o_) 2).trans rfl
      have c3_3 : ∀ o_, (wr.alloc o_).cell? ⟨g3, 3, none⟩ = some (.int .i64 v.use.f1) := fun o_ => (blk_cell (blk_alloc m3 o_) 3).trans rfl
      have c3_4 : ∀ o_, (wr.alloc o_).cell? ⟨g3, 4, none⟩ = some (.int .i64 v.drift.f0) := fun o_ => (blk_cell (blk_alloc m3 o_) 4).trans rfl
      have c3_5 : ∀ o_, (wr.alloc o_).cell? ⟨g3, 5, none⟩ = some (.int .i64 v.drift.f1) := fun o_ => (blk_cell (blk_alloc m3 o_) 5).trans rfl
      have c3_6 : ∀ o_, (wr.alloc o_).cell? ⟨g3, 6, none⟩ = some (.int .i64 v.reserve) := fun o_ => (blk_cell (blk_alloc m3 o_) 6).trans rfl
      go_wp2_with fail
      clear c3_0
      clear c3_1
      clear c3_2
      clear c3_3
      clear c3_4
      clear c3_5
      clear c3_6
      clear hx0 hx1
      replace HO := Kd.R_below HO (below_alloc (Below.refl wr.heap.size wr) (.cells #[.int .i64 d.f0, .int .i64 d.f1] 33))
      have hl_3 := blk_lt m3
      have hl_4 := blk_lt m4
      have m11 : Blk (wr.alloc (.cells #[.int .i64 d.f0, .int .i64 d.f1] 33)) (wr.heap.size) #[.int .i64 d.f0, .int .i64 d.f1] 33 := (by have h_ := blk_new wr (.cells #[.int .i64 d.f0, .int .i64 d.f1] 33); first | exact h_ | (simp only [World.size_alloc] at h_; exact h_))
      replace m3 : Blk (wr.alloc (.cells #[.int .i64 d.f0, .int .i64 d.f1] 33)) g3 #[.int .i64 v.speed, .int .i64 v.dive, .int .i64 v.use.f0, .int .i64 v.use.f1, .int .i64 v.drift.f0, .int .i64 v.drift.f1, .int .i64 v.reserve] 29 := (blk_alloc m3 _)
      replace m4 : Blk (wr.alloc (.cells #[.int .i64 d.f0, .int .i64 d.f1] 33)) g4 #[.int .i64 E.f0, .int .i64 E.f1] 27 := (blk_alloc m4 _)
      replace mB : Below w.heap.size w (wr.alloc (.cells #[.int .i64 d.f0, .int .i64 d.f1] 33)) := (below_alloc mB _)
      have hsz_ : w.heap.size ≤ wr.heap.size := hs_wr
      generalize hW_ : (wr.alloc (.cells #[.int .i64 d.f0, .int .i64 d.f1] 33)) = W2 at m3 m4 m11 mB HO ⊢
      clear hW_
      generalize hg11 : wr.heap.size = g11 at m11 ⊢
      have hn_3_11 : g3 ≠ g11 := by omega
      have hn_4_11 : g4 ≠ g11 := by omega
      have hn_11_3 : g11 ≠ g3 := hn_3_11.symm
      have hn_11_4 : g11 ≠ g4 := hn_4_11.symm
      have hG11 : w.heap.size ≤ g11 := by omega
      clear hsz_ hl_3 hl_4
      try clear hg11
      have hs_W2 : w.heap.size ≤ W2.heap.size := mB.size
      have hcon := kT W2
      clear kT
      (with_reducible refine hcon.mono ?_)
      clear hcon
      rintro _ W3 ⟨rfl, hb⟩
      replace HO := Kd.R_below HO hb
      replace m3 := blk_below m3 hb
      replace m4 := blk_below m4 hb
      replace m11 := blk_below m11 hb
      replace mB := below_step mB hb
      clear hb
      have hs_W3 : w.heap.size ≤ W3.heap.size := mB.size
      go_wp2
      have hlt3 : some W3.heap.size ≠ v_.ownBlock := fun h => by have := Kd.R_lt HO _ h.symm; omega
      replace HO := Kd.R_below HO (below_alloc (Below.refl W3.heap.size W3) (.cells #[.int .i64 x.f0, .int .i64 x.f1] 27))
      have hl_3 := blk_lt m3
      have hl_4 := blk_lt m4
      have hl_11 := blk_lt m11
      have m12 : Blk (W3.alloc (.cells #[.int .i64 x.f0, .int .i64 x.f1] 27)) (W3.heap.size) #[.int .i64 x.f0, .int .i64 x.f1] 27 := (by have h_ := blk_new W3 (.cells #[.int .i64 x.f0, .int .i64 x.f1] 27); first | exact h_ | (simp only [World.size_alloc] at h_; exact h_))
      replace m3 : Blk (W3.alloc (.cells #[.int .i64 x.f0, .int .i64 x.f1] 27)) g3 #[.int .i64 v.speed, .int .i64 v.dive, .int .i64 v.use.f0, .int .i64 v.use.f1, .int .i64 v.drift.f0, .int .i64 v.drift.f1, .int .i64 v.reserve] 29 := (blk_alloc m3 _)
      replace m4 : Blk (W3.alloc (.cells #[.int .i64 x.f0, .int .i64 x.f1] 27)) g4 #[.int .i64 E.f0, .int .i64 E.f1] 27 := (blk_alloc m4 _)
      replace m11 : Blk (W3.alloc (.cells #[.int .i64 x.f0, .int .i64 x.f1] 27)) g11 #[.int .i64 d.f0, .int .i64 d.f1] 33 := (blk_alloc m11 _)
      replace mB : Below w.heap.size w (W3.alloc (.cells #[.int .i64 x.f0, .int .i64 x.f1] 27)) := (below_alloc mB _)
      have hsz_ : w.heap.size ≤ W3.heap.size := hs_W3
      generalize hW_ : (W3.alloc (.cells #[.int .i64 x.f0, .int .i64 x.f1] 27)) = W4 at m3 m4 m11 m12 mB HO ⊢
      clear hW_
      generalize hg12 : W3.heap.size = g12 at m12 hlt3 ⊢
      have hn_3_12 : g3 ≠ g12 := by omega
      have hn_4_12 : g4 ≠ g12 := by omega
      have hn_11_12 : g11 ≠ g12 := by omega
      have hn_12_3 : g12 ≠ g3 := hn_3_12.symm
      have hn_12_4 : g12 ≠ g4 := hn_4_12.symm
      have hn_12_11 : g12 ≠ g11 := hn_11_12.symm
      have hG12 : w.heap.size ≤ g12 := by omega
      clear hsz_ hl_3 hl_4 hl_11
      try clear hg12
      have hs_W4 : w.heap.size ≤ W4.heap.size := mB.size
      replace m3 := blk_drew m3
      replace m4 := blk_drew m4
      replace m11 := blk_drew m11
      replace m12 := blk_drew m12
      replace mB := below_drew1 mB
      replace HO := Kd.R_below HO (below_drew1 (Below.refl W4.heap.size W4))
      refine start_ (n := 14) (S := fun w' => w'.cell? ⟨g12, 0, none⟩ = some (.int .i64 x.f0) ∧ w'.cell? ⟨g12, 1, none⟩ = some (.int .i64 x.f1) ∧ w'.cell? ⟨g4, 1, none⟩ = some (.int .i64 E.f1)) (ds := [13]) #[false, false, false, false, false, false, false, false, false, false, false, false, false, false] zq1 rfl rfl ⟨((blk_cell m12 0).trans rfl), ((blk_cell m12 1).trans rfl), ((blk_cell m4 1).trans rfl)⟩ (fun hHeld => ?_)
      generalize hWd : World.drew _ = Wx at *
      clear hWd
      refine zpz (i := 0) (N := some 23) zq1 ?_
      refine zpz (i := 2) (N := some 25) zq1 ?_
      refine zpz (i := 5) (N := some 28) zq1 ?_
      refine zpz (i := 7) (N := some 30) zq1 ?_
      refine ztz (i := 3) (N := some 26) zq1 hHeld ?_
      refine ztz (i := 6) (N := some 29) zq1 hHeld ?_
      refine ztz (i := 8) (N := some 31) zq1 hHeld ?_
      refine zpz (i := 9) (N := some 32) zq1 ?_
      refine one_ (i := 1) (N := some 24) #[true, true, true, true, false, true, true, true, true, true, false, false, false, false] rfl rfl zq1 (by decide) (fun K hK => ?_)
      have hc0_ := (blk_cell m4 0).trans rfl
      refine value_ (w1 := ?_) (v := ?_) (by rfl) rfl ?_ ?_
      rotate_left 2
      · go_simp
        constructor
        · rfl
        · rfl
      clear hc0_
      refine hK.out _ _ ⟨((blk_cell m12 0).trans rfl), ((blk_cell m12 1).trans rfl), ((blk_cell m4 1).trans rfl)⟩ (fun hHeld => ?_)
      clear hK K
      refine norm_ zq32 ?_
      refine zpz (i := 4) (N := some 27) zq1 ?_
      refine zpz (i := 10) (N := some 33) zq1 ?_
      refine one_ (i := 11) (N := none) #[true, true, true, true, true, true, true, true, true, true, true, true, false, false] rfl rfl zq1 (by decide) (fun K hK => ?_)
      have hf0_ := blk_frozen m4 0
      have hc0_ := (blk_cell m4 0).trans rfl
      refine skip_ (w1 := ?_) (by rfl) rfl ?_ ?_
      rotate_left
      · go_simp
        rfl
      clear hf0_ hc0_
      refine hK.out _ _ ⟨((blk_cell (blk_far (p := ⟨g4, 0, none⟩) m12 hn_12_4 _) 0).trans rfl), ((blk_cell (blk_far (p := ⟨g4, 0, none⟩) m12 hn_12_4 _) 1).trans rfl), ((blk_cell (blk_put m4 0 (.int .i64 (wrap64 (E.f0 - x.f1))) rfl) 1).trans rfl)⟩ (fun hHeld => ?_)
      clear hK K
      refine zpz (i := 12) (N := some 34) zq1 ?_
      refine last_ (i := 13) (N := none) #[true, true, true, true, true, true, true, true, true, true, true, true, true, true] rfl rfl zq1 (by decide) (fun K hK => ?_)
      have hq_ := (blk_put m4 0 (.int .i64 (wrap64 (E.f0 - x.f1))) rfl)
      have hf1_ := blk_frozen hq_ 1
      have hc1_ := (blk_cell hq_ 1).trans rfl
      refine skip_ (w1 := ?_) (by rfl) rfl ?_ ?_
      rotate_left
      · go_simp
        rfl
      clear hf1_ hc1_ hq_
      refine hK.out _ _ ?_
      clear hK K
      refine done_ zq1 ?_
      have n4 : Blk ((Wx.setCell ⟨g4, 0, none⟩ (.int .i64 (wrap64 (E.f0 - x.f1)))).setCell ⟨g4, 1, none⟩ (.int .i64 (wrap64 (E.f1 - x.f0)))) g4 #[.int .i64 (wrap64 (E.f0 - x.f1)), .int .i64 (wrap64 (E.f1 - x.f0))] 27 := (blk_put (blk_put m4 0 _ rfl) 1 _ rfl)
      have n3 : Blk ((Wx.setCell ⟨g4, 0, none⟩ (.int .i64 (wrap64 (E.f0 - x.f1)))).setCell ⟨g4, 1, none⟩ (.int .i64 (wrap64 (E.f1 - x.f0)))) g3 #[.int .i64 v.speed, .int .i64 v.dive, .int .i64 v.use.f0, .int .i64 v.use.f1, .int .i64 v.drift.f0, .int .i64 v.drift.f1, .int .i64 v.reserve] 29 := (blk_far (p := ⟨g4, 1, none⟩) (blk_far (p := ⟨g4, 0, none⟩) m3 hn_3_4 _) hn_3_4 _)
      have nB : Below w.heap.size w ((Wx.setCell ⟨g4, 0, none⟩ (.int .i64 (wrap64 (E.f0 - x.f1)))).setCell ⟨g4, 1, none⟩ (.int .i64 (wrap64 (E.f1 - x.f0)))) := (Below.setCell (p := ⟨g4, 1, none⟩) (Below.setCell (p := ⟨g4, 0, none⟩) mB hG4 _) hG4 _)
      have nO : Kd.R k27 27 ((Wx.setCell ⟨g4, 0, none⟩ (.int .i64 (wrap64 (E.f0 - x.f1)))).setCell ⟨g4, 1, none⟩ (.int .i64 (wrap64 (E.f1 - x.f0)))) w.heap.size (fun q => q ≠ g4) v_ out := (Kd.R_far (p := ⟨g4, 1, none⟩) (Kd.R_far (p := ⟨g4, 0, none⟩) HO (fun _ hk => hk) _) (fun _ hk => hk) _)
      clear m3 m4 m11 m12 mB HO
      try clear hHeld
      generalize hW_ : ((Wx.setCell ⟨g4, 0, none⟩ (.int .i64 (wrap64 (E.f0 - x.f1)))).setCell ⟨g4, 1, none⟩ (.int .i64 (wrap64 (E.f1 - x.f0)))) = W5 at n3 n4 nB nO ⊢
      clear hW_
      obtain ⟨hol, hE0, hE1, hE2, hx0, hx1, hx2, hw0, hw1⟩ := HQ1.out
      rw [hw0, hw1] at n4
      try rw [hw0, hw1]
      clear HQ1
      have hs_W5 : w.heap.size ≤ W5.heap.size := nB.size
      have m3 := n3
      have m4 := n4
      have mB := nB
      have HO := nO
      clear n3 n4 nB nO
      obtain ⟨c3_0, c3_1, c3_2, c3_3, c3_4, c3_5, c3_6⟩ := zcs7 m3
      obtain ⟨c4_0, c4_1⟩ := zcs2 m4
      by_cases hE : E.f0 - x.f1 < v.reserve
      case pos =>
        have HZ := Lib.hid (HR2.out.trans (if_pos hE))
        have hd1 : decide (E.f0 - x.f1 < v.reserve) = true := decide_eq_true hE
        clear hE HR2
        go_wp2
        go_ret3
        exact ⟨_, zq15, by rw [HZ.out]; exact Kd.R_nil _ _ _ _ _, mB⟩
      case neg =>
        have HR3 := Lib.hid (HR2.out.trans (if_neg hE))
        have hd1 : decide (E.f0 - x.f1 < v.reserve) = false := decide_eq_false hE
        have HQ2 : Hid (out.length = k ∧ 0 ≤ E.f0 - x.f1 ∧ E.f0 - x.f1 ≤ E.f1 - x.f0 ∧ E.f1 - x.f0 ≤ 1073741824) := Lib.hid ⟨hol, by omega, by omega, by omega⟩
        clear HR2 hol hE0 hE1 hE2 hx0 hx1 hx2 hw0 hw1 hE
        have hal : Hid ((out.length + 1) * 16 ≤ 140737488355328) := Lib.hid (by have := HQ2.out.1; omega)
        have hne4 : some g4 ≠ v_.ownBlock := fun h => HO.1 g4 h.symm rfl
        have hne3 := Kd.R_ne HO m3 (by decide)
        go_wp2_with (first | ((with_reducible refine gate_builtin (b := .append) (xs := #[.tmp 41, .tmp 43]) rfl ?_); (try (refine gate_guard (by rfl) ?_; dsimp only)); at_builtin; go_loud (refine Kd.R_append k27 (w0 := w) w.heap.size rfl (.tmp 41) (.tmp 43) 66 27 (.agg #[.int .i64 0, .int .i64 0]) 16 rfl Try.underlying66 info27 rfl (by decide) (by decide) v_ out ⟨E.f0 - x.f1, E.f1 - x.f0⟩ [.int .i64 (E.f0 - x.f1), .int .i64 (E.f1 - x.f0)] (fun q => q ≠ g4) (fun _ => False) rfl (by first | rfl | (go_simp; done) | (go_simp; rfl)) ?aP (fun _ hk => hk.elim) ?aF ?aO ?aB ?aS ?aL ?_); (case aP => exact k27_mkM _ _ _ (⟨E.f0 - x.f1, E.f1 - x.f0⟩ : S27)); (case aF => exact (fun q hq => by have h_ := blk_lt m4; omega)); (case aO => exact HO); (case aB => exact mB); (case aS => exact mB.size); (case aL => exact hal.out); intro v1 w1 HO1 hB1 hgr hat))
        go_roundw
        case rel =>
          exact ⟨k + 1, v1, (⟨E.f0 - x.f1, E.f1 - x.f0⟩ : S27), out ++ [(⟨E.f0 - x.f1, E.f1 - x.f0⟩ : S27)], rfl, by simp, by omega, Lib.hid HR3.out, Lib.hid ⟨by rw [List.length_append]; have := HQ2.out.1; simp; omega, HQ2.out.2⟩, blk_grown m3 hgr hne3, blk_grown m4 hgr hne4, HO1, hB1⟩
        case measure => simp [intOf]; omega
end Go.Proofs.Ytmhaiihjfgfaoaa.Gl
end
section
/- The contracts of exported functions, as the printed texts ask for them. -/
namespace Go.Proofs.Ytmhaiihjfgfaoaa.Pr
open Go.RowKit Go.Proofs.YtmhaiihjfgfaoaaW.PrintWords Go.Proofs.YtmhaiihjfgfaoaaW.PrintLast Go.Proofs.YtmhaiihjfgfaoaaW.PrintMore Go.Proofs.Ytmhaiihjfgfaoaa.Gl
set_option linter.unusedVariables false
def glider_energy.f (a0_0 : Int) (a0_1 : Int) (a0_2 : Int) (a0_3 : Int) (a0_4 : Int) (a0_5 : Int) (a0_6 : Int) (a1_0 : Int) (a1_1 : Int) (l2 : List (S33)) : Option ((List (S27)) × Int × Int) := if (vehB ⟨a0_0, a0_1, ⟨a0_2, a0_3⟩, ⟨a0_4, a0_5⟩, a0_6⟩ && bndB a1_0 a1_1 0 1073741824 && decide (l2.length ≤ 64)) = true then some (enI ⟨a0_0, a0_1, ⟨a0_2, a0_3⟩, ⟨a0_4, a0_5⟩, a0_6⟩ l2 ⟨a1_0, a1_1⟩ 0 []) else none
theorem glider_energy.calls (a0_0 : Int) (a0_1 : Int) (a0_2 : Int) (a0_3 : Int) (a0_4 : Int) (a0_5 : Int) (a0_6 : Int) (a1_0 : Int) (a1_1 : Int) (A2 : Option Addr) (c2 : Nat) (l2 : List (S33)) (r1 : List (S27)) (r2 : Int) (r3 : Int) (w : World) (hr2 : Kd.C k33 w A2 l2.length l2) (hc2 : l2.length ≤ c2) (h : glider_energy.f a0_0 a0_1 a0_2 a0_3 a0_4 a0_5 a0_6 a1_0 a1_1 l2 = some (r1, r2, r3)) :
    Calls Try.prog 85 #[.agg #[.int .i64 a0_0, .int .i64 a0_1, .int .i64 a0_2, .int .i64 a0_3, .int .i64 a0_4, .int .i64 a0_5, .int .i64 a0_6], .agg #[.int .i64 a1_0, .int .i64 a1_1], .slice A2 l2.length c2] w fun e w' => ∃ v0_ : Value, e = .returned (.tuple #[v0_, .int .i64 r2, .int .i64 r3]) ∧ Kd.R k27 27 w' w.heap.size (fun _ => True) v0_ r1 ∧ Below w.heap.size w w' := by
  unfold glider_energy.f at h
  by_cases hg_ : (vehB ⟨a0_0, a0_1, ⟨a0_2, a0_3⟩, ⟨a0_4, a0_5⟩, a0_6⟩ && bndB a1_0 a1_1 0 1073741824 && decide (l2.length ≤ 64)) = true
  · rw [if_pos hg_] at h
    have e_ := Option.some.inj h
    simp only [Bool.and_eq_true, decide_eq_true_eq] at hg_
    have q_ := energy_any ⟨a0_0, a0_1, ⟨a0_2, a0_3⟩, ⟨a0_4, a0_5⟩, a0_6⟩ ⟨a1_0, a1_1⟩ A2 c2 l2 w hg_.1.1 hg_.1.2 hr2 hc2 hg_.2
    rw [e_] at q_
    exact q_
  · rw [if_neg hg_] at h
    cases h
end Go.Proofs.Ytmhaiihjfgfaoaa.Pr
end
section
namespace Go.Proofs.Ytmhaiihjfgfaoaa.Pr
open Go.RowKit Go.Proofs.YtmhaiihjfgfaoaaW.PrintWords Go.Proofs.YtmhaiihjfgfaoaaW.PrintLast Go.Proofs.YtmhaiihjfgfaoaaW.PrintMore
attribute [local go_sem] max2_int min2_int max_two min_two max_four
set_option linter.unusedVariables false
set_option linter.unusedSimpArgs false

/-! ### glider_Energy: function 38 -/
def glider_Energy.f (k : Nat) (a0_0 : Int) (a0_1 : Int) (a0_2 : Int) (a0_3 : Int) (a0_4 : Int) (a0_5 : Int) (a0_6 : Int) (a1_0 : Int) (a1_1 : Int) (l2 : List (S33)) : Option ((List (S27)) × Int × Int) := (glider_CheckVehicle.f k a0_0 a0_1 a0_2 a0_3 a0_4 a0_5 a0_6).bind fun t599 => (if t599 = 0 then ((glider_bounded.f k a1_0 a1_1 0 1073741824).bind fun t600 => (if t600 = true then ((glider_checkCourses.f k l2 (-1)).bind fun t601 => (if t601 = 0 then ((glider_energy.f a0_0 a0_1 a0_2 a0_3 a0_4 a0_5 a0_6 a1_0 a1_1 l2).bind fun bt602 => (some (bt602.1, bt602.2.1, bt602.2.2))) else (some (([] : List (S27)), 0, t601)))) else (some (([] : List (S27)), 0, 2)))) else (some (([] : List (S27)), 0, t599)))
set_option maxHeartbeats 8000000 in
set_option maxRecDepth 100000 in
theorem glider_Energy.calls (k : Nat) (a0_0 : Int) (a0_1 : Int) (a0_2 : Int) (a0_3 : Int) (a0_4 : Int) (a0_5 : Int) (a0_6 : Int) (a1_0 : Int) (a1_1 : Int) (A2 : Option Addr) (c2 : Nat) (l2 : List (S33)) (r1 : List (S27)) (r2 : Int) (r3 : Int) (w : World) (hr2 : Kd.C k33 w A2 l2.length l2) (hc2 : l2.length ≤ c2) (h : glider_Energy.f k a0_0 a0_1 a0_2 a0_3 a0_4 a0_5 a0_6 a1_0 a1_1 l2 = some (r1, r2, r3)) :
    Calls Try.prog 38 #[.agg #[.int .i64 a0_0, .int .i64 a0_1, .int .i64 a0_2, .int .i64 a0_3, .int .i64 a0_4, .int .i64 a0_5, .int .i64 a0_6], .agg #[.int .i64 a1_0, .int .i64 a1_1], .slice A2 l2.length c2] w fun e w' => ∃ v0_ : Value, e = .returned (.tuple #[v0_, .int .i64 r2, .int .i64 r3]) ∧ Kd.R k27 27 w' w.heap.size (fun _ => True) v0_ r1 ∧ Below w.heap.size w w' := by
  have hu29 := Try.underlying29
  have hu27 := Try.underlying27
  have HR2 := Aside0.mk hr2
  have HC2 := Aside0.mk hc2
  clear hr2 hc2
  have HB := Aside0.mk (Below.refl w.heap.size w)
  have H : ((glider_CheckVehicle.f k a0_0 a0_1 a0_2 a0_3 a0_4 a0_5 a0_6).bind fun t599 => (if t599 = 0 then ((glider_bounded.f k a1_0 a1_1 0 1073741824).bind fun t600 => (if t600 = true then ((glider_checkCourses.f k l2 (-1)).bind fun t601 => (if t601 = 0 then ((glider_energy.f a0_0 a0_1 a0_2 a0_3 a0_4 a0_5 a0_6 a1_0 a1_1 l2).bind fun bt602 => (some (bt602.1, bt602.2.1, bt602.2.2))) else (some (([] : List (S27)), 0, t601)))) else (some (([] : List (S27)), 0, 2)))) else (some (([] : List (S27)), 0, t599)))) = some (r1, r2, r3) := h
  clear h
  replace H := Option.bind_eq_some_iff.mp H
  obtain ⟨t599, A40, H⟩ := H
  replace H : (if t599 = 0 then ((glider_bounded.f k a1_0 a1_1 0 1073741824).bind fun t600 => (if t600 = true then ((glider_checkCourses.f k l2 (-1)).bind fun t601 => (if t601 = 0 then ((glider_energy.f a0_0 a0_1 a0_2 a0_3 a0_4 a0_5 a0_6 a1_0 a1_1 l2).bind fun bt602 => (some (bt602.1, bt602.2.1, bt602.2.2))) else (some (([] : List (S27)), 0, t601)))) else (some (([] : List (S27)), 0, 2)))) else (some (([] : List (S27)), 0, t599))) = some (r1, r2, r3) := H
  have A4 := Aside0.mk A40
  clear A40
  by_cases c5 : t599 = 0
  · rw [if_pos c5] at H
    have c5b0 : (t599 == 0) = true := beq_iff_eq.mpr c5
    have c5b1 : (t599 != 0) = false := bne_eq_false_iff_eq.mpr c5
    clear c5
    replace H := Option.bind_eq_some_iff.mp H
    obtain ⟨t600, A60, H⟩ := H
    replace H : (if t600 = true then ((glider_checkCourses.f k l2 (-1)).bind fun t601 => (if t601 = 0 then ((glider_energy.f a0_0 a0_1 a0_2 a0_3 a0_4 a0_5 a0_6 a1_0 a1_1 l2).bind fun bt602 => (some (bt602.1, bt602.2.1, bt602.2.2))) else (some (([] : List (S27)), 0, t601)))) else (some (([] : List (S27)), 0, 2))) = some (r1, r2, r3) := H
    have A6 := Aside0.mk A60
    clear A60
    by_cases c7 : t600 = true
    · subst c7
      have H1 : ((glider_checkCourses.f k l2 (-1)).bind fun t601 => (if t601 = 0 then ((glider_energy.f a0_0 a0_1 a0_2 a0_3 a0_4 a0_5 a0_6 a1_0 a1_1 l2).bind fun bt602 => (some (bt602.1, bt602.2.1, bt602.2.2))) else (some (([] : List (S27)), 0, t601)))) = some (r1, r2, r3) := by rw [if_pos rfl] at H; exact H
      clear H
      have H := H1
      clear H1
      replace H := Option.bind_eq_some_iff.mp H
      obtain ⟨t601, A80, H⟩ := H
      replace H : (if t601 = 0 then ((glider_energy.f a0_0 a0_1 a0_2 a0_3 a0_4 a0_5 a0_6 a1_0 a1_1 l2).bind fun bt602 => (some (bt602.1, bt602.2.1, bt602.2.2))) else (some (([] : List (S27)), 0, t601))) = some (r1, r2, r3) := H
      have A8 := Aside0.mk A80
      clear A80
      by_cases c9 : t601 = 0
      · rw [if_pos c9] at H
        have c9b0 : (t601 == 0) = true := beq_iff_eq.mpr c9
        have c9b1 : (t601 != 0) = false := bne_eq_false_iff_eq.mpr c9
        clear c9
        replace H := Option.bind_eq_some_iff.mp H
        obtain ⟨⟨t602, t605, t606⟩, A100, H⟩ := H
        replace H : (some (t602, t605, t606)) = some (r1, r2, r3) := H
        have A10 := Aside0.mk A100
        clear A100
        simp only [Option.some.injEq, Prod.mk.injEq] at H
        obtain ⟨rfl, rfl, rfl⟩ := H
        go_enter Try.func38, Try.ntmps38
        go_wp2_with (first | ((with_reducible refine gate_dst (N := 3) rfl ?_); refine box_event (by rfl) (N := 3) (by rfl) (cs := #[.int .i64 a0_0, .int .i64 a0_1, .int .i64 a0_2, .int .i64 a0_3, .int .i64 a0_4, .int .i64 a0_5, .int .i64 a0_6]) (t := 29) zq5 ?_; intro gb597 hg w11 hbox hb; have BK597 := Aside0.mk (hbox); have GW597 := zgs HB hg; have GE597 := zgs HB hg; replace HB := zbs HB hb; clear hb hbox hg) | ((with_reducible refine gate_dst (N := 4) rfl ?_); refine box_event (by rfl) (N := 4) (by rfl) (cs := #[.int .i64 a1_0, .int .i64 a1_1]) (t := 27) zq5 ?_; intro gb598 hg w12 hbox hb; have BK598 := Aside0.mk (hbox); have GW598 := zgs HB hg; have GE598 := zgs HB hg; have NB597_598 := znp BK597 hg; have NB598_597 := znq BK597 hg; replace BK597 := zbb BK597 hb; replace HB := zbs HB hb; clear hb hbox hg; have hnb13 := NB597_598.out; have hnc13 := NB598_597.out; obtain ⟨hcz14_0, hcz14_1, hcz14_2, hcz14_3, hcz14_4, hcz14_5, hcz14_6, hfz14_0, hfz14_1, hfz14_2, hfz14_3, hfz14_4, hfz14_5, hfz14_6⟩ := zce7 BK597.out) | ((with_reducible refine gate_callee (f := 27) rfl ?_); refine goesL_ (some 12) rfl rfl Try.func27 zq1 rfl #[.agg #[.int .i64 a0_0, .int .i64 a0_1, .int .i64 a0_2, .int .i64 a0_3, .int .i64 a0_4, .int .i64 a0_5, .int .i64 a0_6]] rfl zq8 ?_; (with_reducible refine (glider_CheckVehicle.calls k a0_0 a0_1 a0_2 a0_3 a0_4 a0_5 a0_6 t599 _ A4.out).mono ?_); rintro e w15 ⟨rfl, hb⟩; refine ⟨_, rfl, ?_⟩; replace BK597 := zbb BK597 hb; replace BK598 := zbb BK598 hb; replace HB := zbs HB hb; (try clear hb); (try clear hb2); (try clear hk); (try clear hi); obtain ⟨hcz16_0, hcz16_1, hfz16_0, hfz16_1⟩ := zce2 BK598.out) | ((with_reducible refine gate_callee (f := 77) rfl ?_); refine goesL_ (some 17) rfl rfl Try.func77 zq1 rfl #[.agg #[.int .i64 a1_0, .int .i64 a1_1], .int .i64 0, .int .i64 1073741824] rfl zq8 ?_; (with_reducible refine (glider_bounded.calls k a1_0 a1_1 0 1073741824 true _ A6.out).mono ?_); rintro e w17 ⟨rfl, hb⟩; refine ⟨_, rfl, ?_⟩; replace BK597 := zbb BK597 hb; replace BK598 := zbb BK598 hb; replace HB := zbs HB hb; (try clear hb); (try clear hb2); (try clear hk); (try clear hi)) | ((with_reducible refine gate_callee (f := 65) rfl ?_); refine goesL_ (some 20) rfl rfl Try.func65 zq1 rfl #[.slice A2 l2.length c2, .int .i64 (-1)] rfl zq8 ?_; (with_reducible refine (glider_checkCourses.calls k _ _ l2 (-1) t601 _ ?side1 ?side2 A8.out).mono ?_); (case side1 => repeat (first | exact (Kd.C_below HR2.out HB.out) | (with_reducible refine Kd.C_alloc ?_ _) | (with_reducible refine Kd.C_drewN ?_ _) | (with_reducible refine Kd.C_drew ?_))); (case side2 => exact HC2.out); rintro e w18 ⟨rfl, hb⟩; refine ⟨_, rfl, ?_⟩; replace BK597 := zbb BK597 hb; replace BK598 := zbb BK598 hb; replace HB := zbs HB hb; (try clear hb); (try clear hb2); (try clear hk); (try clear hi); obtain ⟨hcz19_0, hcz19_1, hcz19_2, hcz19_3, hcz19_4, hcz19_5, hcz19_6, hfz19_0, hfz19_1, hfz19_2, hfz19_3, hfz19_4, hfz19_5, hfz19_6⟩ := zce7 BK597.out; obtain ⟨hcz20_0, hcz20_1, hfz20_0, hfz20_1⟩ := zce2 BK598.out) | ((with_reducible refine gate_callee (f := 85) rfl ?_); refine goesL_ (some 27) rfl rfl Try.func85 zq1 rfl #[.agg #[.int .i64 a0_0, .int .i64 a0_1, .int .i64 a0_2, .int .i64 a0_3, .int .i64 a0_4, .int .i64 a0_5, .int .i64 a0_6], .agg #[.int .i64 a1_0, .int .i64 a1_1], .slice A2 l2.length c2] rfl zq8 ?_; (with_reducible refine (glider_energy.calls a0_0 a0_1 a0_2 a0_3 a0_4 a0_5 a0_6 a1_0 a1_1 _ _ l2 t602 t605 t606 _ ?side1 ?side2 A10.out).mono ?_); (case side1 => repeat (first | exact (Kd.C_below HR2.out HB.out) | (with_reducible refine Kd.C_alloc ?_ _) | (with_reducible refine Kd.C_drewN ?_ _) | (with_reducible refine Kd.C_drew ?_))); (case side2 => exact HC2.out); rintro e w21 ⟨v603, rfl, ho0, hb⟩; refine ⟨_, rfl, ?_⟩; have n0_ := Aside0.mk (Kd.R_lower (Kd.R_newB ho0 (g := gb598) (o := .cells #[.int .i64 a1_0, .int .i64 a1_1] 27 (0, 0)) (by (with_reducible repeat (first | refine blk_drewN ?_ _ | refine blk_drew ?_ | refine blk_alloc ?_ _)); exact BK598.out)) (below_size zbz)); have n1_ := zbb BK597 hb; have n2_ := zbb BK598 hb; have n3_ := zbs HB hb; clear BK597; clear BK598; clear HB; have HO604 := n0_; have BK597 := n1_; have BK598 := n2_; have HB := n3_; clear n0_ n1_ n2_ n3_; (try clear hb); (try clear hb2); (try clear hk); (try clear hi); (try clear ho0)))
        go_ret3
        exact ⟨_, zq6, by (with_reducible repeat (first | apply Kd.R_alloc | apply Kd.R_drewN | apply Kd.R_drew)); exact Kd.R_mono HO604.out (fun _ hk => trivial), zbz⟩
      · rw [if_neg c9] at H
        have c9b0 : (t601 == 0) = false := beq_eq_false_iff_ne.mpr c9
        have c9b1 : (t601 != 0) = true := bne_iff_ne.mpr c9
        simp only [Option.some.injEq, Prod.mk.injEq] at H
        obtain ⟨rfl, rfl, rfl⟩ := H
        go_enter Try.func38, Try.ntmps38
        go_wp2_with (first | ((with_reducible refine gate_dst (N := 3) rfl ?_); refine box_event (by rfl) (N := 3) (by rfl) (cs := #[.int .i64 a0_0, .int .i64 a0_1, .int .i64 a0_2, .int .i64 a0_3, .int .i64 a0_4, .int .i64 a0_5, .int .i64 a0_6]) (t := 29) zq5 ?_; intro gb597 hg w22 hbox hb; have BK597 := Aside0.mk (hbox); have GW597 := zgs HB hg; have GE597 := zgs HB hg; replace HB := zbs HB hb; clear hb hbox hg) | ((with_reducible refine gate_dst (N := 4) rfl ?_); refine box_event (by rfl) (N := 4) (by rfl) (cs := #[.int .i64 a1_0, .int .i64 a1_1]) (t := 27) zq5 ?_; intro gb598 hg w23 hbox hb; have BK598 := Aside0.mk (hbox); have GW598 := zgs HB hg; have GE598 := zgs HB hg; have NB597_598 := znp BK597 hg; have NB598_597 := znq BK597 hg; replace BK597 := zbb BK597 hb; replace HB := zbs HB hb; clear hb hbox hg; have hnb24 := NB597_598.out; have hnc24 := NB598_597.out; obtain ⟨hcz25_0, hcz25_1, hcz25_2, hcz25_3, hcz25_4, hcz25_5, hcz25_6, hfz25_0, hfz25_1, hfz25_2, hfz25_3, hfz25_4, hfz25_5, hfz25_6⟩ := zce7 BK597.out) | ((with_reducible refine gate_callee (f := 27) rfl ?_); refine goesL_ (some 12) rfl rfl Try.func27 zq1 rfl #[.agg #[.int .i64 a0_0, .int .i64 a0_1, .int .i64 a0_2, .int .i64 a0_3, .int .i64 a0_4, .int .i64 a0_5, .int .i64 a0_6]] rfl zq8 ?_; (with_reducible refine (glider_CheckVehicle.calls k a0_0 a0_1 a0_2 a0_3 a0_4 a0_5 a0_6 t599 _ A4.out).mono ?_); rintro e w26 ⟨rfl, hb⟩; refine ⟨_, rfl, ?_⟩; replace BK597 := zbb BK597 hb; replace BK598 := zbb BK598 hb; replace HB := zbs HB hb; (try clear hb); (try clear hb2); (try clear hk); (try clear hi); obtain ⟨hcz27_0, hcz27_1, hfz27_0, hfz27_1⟩ := zce2 BK598.out) | ((with_reducible refine gate_callee (f := 77) rfl ?_); refine goesL_ (some 17) rfl rfl Try.func77 zq1 rfl #[.agg #[.int .i64 a1_0, .int .i64 a1_1], .int .i64 0, .int .i64 1073741824] rfl zq8 ?_; (with_reducible refine (glider_bounded.calls k a1_0 a1_1 0 1073741824 true _ A6.out).mono ?_); rintro e w28 ⟨rfl, hb⟩; refine ⟨_, rfl, ?_⟩; replace BK597 := zbb BK597 hb; replace BK598 := zbb BK598 hb; replace HB := zbs HB hb; (try clear hb); (try clear hb2); (try clear hk); (try clear hi)) | ((with_reducible refine gate_callee (f := 65) rfl ?_); refine goesL_ (some 20) rfl rfl Try.func65 zq1 rfl #[.slice A2 l2.length c2, .int .i64 (-1)] rfl zq8 ?_; (with_reducible refine (glider_checkCourses.calls k _ _ l2 (-1) t601 _ ?side1 ?side2 A8.out).mono ?_); (case side1 => repeat (first | exact (Kd.C_below HR2.out HB.out) | (with_reducible refine Kd.C_alloc ?_ _) | (with_reducible refine Kd.C_drewN ?_ _) | (with_reducible refine Kd.C_drew ?_))); (case side2 => exact HC2.out); rintro e w29 ⟨rfl, hb⟩; refine ⟨_, rfl, ?_⟩; replace BK597 := zbb BK597 hb; replace BK598 := zbb BK598 hb; replace HB := zbs HB hb; (try clear hb); (try clear hb2); (try clear hk); (try clear hi)))
        go_ret3
        exact ⟨_, zq6, zq10, zbz⟩
    · replace c7 := Bool.eq_false_iff.mpr c7
      subst c7
      have H1 : (some (([] : List (S27)), 0, 2)) = some (r1, r2, r3) := by rw [if_neg (show ¬ (false = true) by decide)] at H; exact H
      clear H
      have H := H1
      clear H1
      simp only [Option.some.injEq, Prod.mk.injEq] at H
      obtain ⟨rfl, rfl, rfl⟩ := H
      go_enter Try.func38, Try.ntmps38
      go_wp2_with (first | ((with_reducible refine gate_dst (N := 3) rfl ?_); refine box_event (by rfl) (N := 3) (by rfl) (cs := #[.int .i64 a0_0, .int .i64 a0_1, .int .i64 a0_2, .int .i64 a0_3, .int .i64 a0_4, .int .i64 a0_5, .int .i64 a0_6]) (t := 29) zq5 ?_; intro gb597 hg w30 hbox hb; have BK597 := Aside0.mk (hbox); have GW597 := zgs HB hg; have GE597 := zgs HB hg; replace HB := zbs HB hb; clear hb hbox hg) | ((with_reducible refine gate_dst (N := 4) rfl ?_); refine box_event (by rfl) (N := 4) (by rfl) (cs := #[.int .i64 a1_0, .int .i64 a1_1]) (t := 27) zq5 ?_; intro gb598 hg w31 hbox hb; have BK598 := Aside0.mk (hbox); have GW598 := zgs HB hg; have GE598 := zgs HB hg; have NB597_598 := znp BK597 hg; have NB598_597 := znq BK597 hg; replace BK597 := zbb BK597 hb; replace HB := zbs HB hb; clear hb hbox hg; have hnb32 := NB597_598.out; have hnc32 := NB598_597.out; obtain ⟨hcz33_0, hcz33_1, hcz33_2, hcz33_3, hcz33_4, hcz33_5, hcz33_6, hfz33_0, hfz33_1, hfz33_2, hfz33_3, hfz33_4, hfz33_5, hfz33_6⟩ := zce7 BK597.out) | ((with_reducible refine gate_callee (f := 27) rfl ?_); refine goesL_ (some 12) rfl rfl Try.func27 zq1 rfl #[.agg #[.int .i64 a0_0, .int .i64 a0_1, .int .i64 a0_2, .int .i64 a0_3, .int .i64 a0_4, .int .i64 a0_5, .int .i64 a0_6]] rfl zq8 ?_; (with_reducible refine (glider_CheckVehicle.calls k a0_0 a0_1 a0_2 a0_3 a0_4 a0_5 a0_6 t599 _ A4.out).mono ?_); rintro e w34 ⟨rfl, hb⟩; refine ⟨_, rfl, ?_⟩; replace BK597 := zbb BK597 hb; replace BK598 := zbb BK598 hb; replace HB := zbs HB hb; (try clear hb); (try clear hb2); (try clear hk); (try clear hi); obtain ⟨hcz35_0, hcz35_1, hfz35_0, hfz35_1⟩ := zce2 BK598.out) | ((with_reducible refine gate_callee (f := 77) rfl ?_); refine goesL_ (some 17) rfl rfl Try.func77 zq1 rfl #[.agg #[.int .i64 a1_0, .int .i64 a1_1], .int .i64 0, .int .i64 1073741824] rfl zq8 ?_; (with_reducible refine (glider_bounded.calls k a1_0 a1_1 0 1073741824 false _ A6.out).mono ?_); rintro e w36 ⟨rfl, hb⟩; refine ⟨_, rfl, ?_⟩; replace BK597 := zbb BK597 hb; replace BK598 := zbb BK598 hb; replace HB := zbs HB hb; (try clear hb); (try clear hb2); (try clear hk); (try clear hi)))
      go_ret3
      exact ⟨_, zq6, zq10, zbz⟩
  · rw [if_neg c5] at H
    have c5b0 : (t599 == 0) = false := beq_eq_false_iff_ne.mpr c5
    have c5b1 : (t599 != 0) = true := bne_iff_ne.mpr c5
    simp only [Option.some.injEq, Prod.mk.injEq] at H
    obtain ⟨rfl, rfl, rfl⟩ := H
    go_enter Try.func38, Try.ntmps38
    go_wp2_with (first | ((with_reducible refine gate_dst (N := 3) rfl ?_); refine box_event (by rfl) (N := 3) (by rfl) (cs := #[.int .i64 a0_0, .int .i64 a0_1, .int .i64 a0_2, .int .i64 a0_3, .int .i64 a0_4, .int .i64 a0_5, .int .i64 a0_6]) (t := 29) zq5 ?_; intro gb597 hg w37 hbox hb; have BK597 := Aside0.mk (hbox); have GW597 := zgs HB hg; have GE597 := zgs HB hg; replace HB := zbs HB hb; clear hb hbox hg) | ((with_reducible refine gate_dst (N := 4) rfl ?_); refine box_event (by rfl) (N := 4) (by rfl) (cs := #[.int .i64 a1_0, .int .i64 a1_1]) (t := 27) zq5 ?_; intro gb598 hg w38 hbox hb; have BK598 := Aside0.mk (hbox); have GW598 := zgs HB hg; have GE598 := zgs HB hg; have NB597_598 := znp BK597 hg; have NB598_597 := znq BK597 hg; replace BK597 := zbb BK597 hb; replace HB := zbs HB hb; clear hb hbox hg; have hnb39 := NB597_598.out; have hnc39 := NB598_597.out; obtain ⟨hcz40_0, hcz40_1, hcz40_2, hcz40_3, hcz40_4, hcz40_5, hcz40_6, hfz40_0, hfz40_1, hfz40_2, hfz40_3, hfz40_4, hfz40_5, hfz40_6⟩ := zce7 BK597.out) | ((with_reducible refine gate_callee (f := 27) rfl ?_); refine goesL_ (some 12) rfl rfl Try.func27 zq1 rfl #[.agg #[.int .i64 a0_0, .int .i64 a0_1, .int .i64 a0_2, .int .i64 a0_3, .int .i64 a0_4, .int .i64 a0_5, .int .i64 a0_6]] rfl zq8 ?_; (with_reducible refine (glider_CheckVehicle.calls k a0_0 a0_1 a0_2 a0_3 a0_4 a0_5 a0_6 t599 _ A4.out).mono ?_); rintro e w41 ⟨rfl, hb⟩; refine ⟨_, rfl, ?_⟩; replace BK597 := zbb BK597 hb; replace BK598 := zbb BK598 hb; replace HB := zbs HB hb; (try clear hb); (try clear hb2); (try clear hk); (try clear hi)))
    go_ret3
    exact ⟨_, zq6, zq10, zbz⟩

end Go.Proofs.Ytmhaiihjfgfaoaa.Pr
end
section
namespace Go.Proofs.Ytmhaiihjfgfaoaa.Pr
open Go.RowKit Go.Proofs.YtmhaiihjfgfaoaaW.PrintWords Go.Proofs.YtmhaiihjfgfaoaaW.PrintLast Go.Proofs.YtmhaiihjfgfaoaaW.PrintMore
attribute [local go_sem] max2_int min2_int max_two min_two max_four
set_option linter.unusedVariables false
set_option linter.unusedSimpArgs false

/-! ### isobathref01_Within: function 112 -/
def isobathref01_Within.f (a0 : Int) (a1 : Int) (a2 : Int) : Option (Bool) := if a0 ≥ a1 then (some (decide (a0 ≤ a2))) else (some false)
set_option maxHeartbeats 8000000 in
set_option maxRecDepth 100000 in
theorem isobathref01_Within.calls (a0 : Int) (a1 : Int) (a2 : Int) (r : Bool) (w : World) (h : isobathref01_Within.f a0 a1 a2 = some r) :
    Calls Try.prog 112 #[.int .i64 a0, .int .i64 a1, .int .i64 a2] w fun e w' => e = .returned (.bool r) ∧ Drawn0 w w' := by
  have H : (if a0 ≥ a1 then (some (decide (a0 ≤ a2))) else (some false)) = some r := h
  clear h
  by_cases c4 : a0 ≥ a1
  · rw [if_pos c4] at H
    have c4b0 : decide (a1 ≤ a0) = true := decide_eq_true c4
    clear c4
    obtain rfl := Option.some.inj H
    go_enter Try.func112, Try.ntmps112
    go_wp2
    go_ret
    exact ⟨zq2, zq3⟩
  · rw [if_neg c4] at H
    have c4b0 : decide (a1 ≤ a0) = false := decide_eq_false c4
    clear c4
    obtain rfl := Option.some.inj H
    go_enter Try.func112, Try.ntmps112
    go_wp2
    go_ret
    exact ⟨zq2, zq3⟩

end Go.Proofs.Ytmhaiihjfgfaoaa.Pr
end
section
namespace Go.Proofs.Ytmhaiihjfgfaoaa.Pr
open Go.RowKit Go.Proofs.YtmhaiihjfgfaoaaW.PrintWords Go.Proofs.YtmhaiihjfgfaoaaW.PrintLast Go.Proofs.YtmhaiihjfgfaoaaW.PrintMore
attribute [local go_sem] max2_int min2_int max_two min_two max_four
set_option linter.unusedVariables false
set_option linter.unusedSimpArgs false

/-! ### isobathref01_Valid: function 111 -/
def isobathref01_Valid.f (a0_0 : Int) (a0_1 : Int) : Option (Bool) := if a0_0 ≤ a0_1 then ((isobathref01_Within.f a0_0 (-1073741824) 1073741824).bind fun t103 => (if t103 = true then ((isobathref01_Within.f a0_1 (-1073741824) 1073741824).bind fun t104 => (some t104)) else (some false))) else (some false)
set_option maxHeartbeats 8000000 in
set_option maxRecDepth 100000 in
theorem isobathref01_Valid.calls (a0_0 : Int) (a0_1 : Int) (r : Bool) (w : World) (h : isobathref01_Valid.f a0_0 a0_1 = some r) :
    Calls Try.prog 111 #[.agg #[.int .i64 a0_0, .int .i64 a0_1]] w fun e w' => e = .returned (.bool r) ∧ Below w.heap.size w w' := by
  have hu27 := Try.underlying27
  have HB := Aside0.mk (Below.refl w.heap.size w)
  have H : (if a0_0 ≤ a0_1 then ((isobathref01_Within.f a0_0 (-1073741824) 1073741824).bind fun t103 => (if t103 = true then ((isobathref01_Within.f a0_1 (-1073741824) 1073741824).bind fun t104 => (some t104)) else (some false))) else (some false)) = some r := h
  clear h
  by_cases c2 : a0_0 ≤ a0_1
  · rw [if_pos c2] at H
    have c2b0 : decide (a0_0 ≤ a0_1) = true := decide_eq_true c2
    clear c2
    replace H := Option.bind_eq_some_iff.mp H
    obtain ⟨t103, A30, H⟩ := H
    replace H : (if t103 = true then ((isobathref01_Within.f a0_1 (-1073741824) 1073741824).bind fun t104 => (some t104)) else (some false)) = some r := H
    have A3 := Aside0.mk A30
    clear A30
    by_cases c4 : t103 = true
    · subst c4
      have H1 : ((isobathref01_Within.f a0_1 (-1073741824) 1073741824).bind fun t104 => (some t104)) = some r := by rw [if_pos rfl] at H; exact H
      clear H
      have H := H1
      clear H1
      replace H := Option.bind_eq_some_iff.mp H
      obtain ⟨t104, A50, H⟩ := H
      replace H : (some t104) = some r := H
      have A5 := Aside0.mk A50
      clear A50
      obtain rfl := Option.some.inj H
      go_enter Try.func111, Try.ntmps111
      go_wp2_with (first | ((with_reducible refine gate_dst (N := 1) rfl ?_); refine box_event (by rfl) (N := 1) (by rfl) (cs := #[.int .i64 a0_0, .int .i64 a0_1]) (t := 27) zq5 ?_; intro gb102 hg w6 hbox hb; have BK102 := Aside0.mk (hbox); have GW102 := zgs HB hg; have GE102 := zgs HB hg; replace HB := zbs HB hb; clear hb hbox hg; obtain ⟨hcz7_0, hcz7_1, hfz7_0, hfz7_1⟩ := zce2 BK102.out) | (go_at_call 112; (with_reducible refine (isobathref01_Within.calls a0_0 (-1073741824) 1073741824 true _ A3.out).mono ?_); rintro e w' ⟨rfl, ⟨nd, rfl⟩⟩) | (go_at_call 112; (with_reducible refine (isobathref01_Within.calls a0_1 (-1073741824) 1073741824 t104 _ A5.out).mono ?_); rintro e w' ⟨rfl, ⟨nd, rfl⟩⟩))
      go_ret
      exact ⟨zq6, zbz⟩
    · replace c4 := Bool.eq_false_iff.mpr c4
      subst c4
      have H1 : (some false) = some r := by rw [if_neg (show ¬ (false = true) by decide)] at H; exact H
      clear H
      have H := H1
      clear H1
      obtain rfl := Option.some.inj H
      go_enter Try.func111, Try.ntmps111
      go_wp2_with (first | ((with_reducible refine gate_dst (N := 1) rfl ?_); refine box_event (by rfl) (N := 1) (by rfl) (cs := #[.int .i64 a0_0, .int .i64 a0_1]) (t := 27) zq5 ?_; intro gb102 hg w8 hbox hb; have BK102 := Aside0.mk (hbox); have GW102 := zgs HB hg; have GE102 := zgs HB hg; replace HB := zbs HB hb; clear hb hbox hg; obtain ⟨hcz9_0, hcz9_1, hfz9_0, hfz9_1⟩ := zce2 BK102.out) | (go_at_call 112; (with_reducible refine (isobathref01_Within.calls a0_0 (-1073741824) 1073741824 false _ A3.out).mono ?_); rintro e w' ⟨rfl, ⟨nd, rfl⟩⟩))
      go_ret
      exact ⟨zq6, zbz⟩
  · rw [if_neg c2] at H
    have c2b0 : decide (a0_0 ≤ a0_1) = false := decide_eq_false c2
    clear c2
    obtain rfl := Option.some.inj H
    go_enter Try.func111, Try.ntmps111
    go_wp2_with (first | ((with_reducible refine gate_dst (N := 1) rfl ?_); refine box_event (by rfl) (N := 1) (by rfl) (cs := #[.int .i64 a0_0, .int .i64 a0_1]) (t := 27) zq5 ?_; intro gb102 hg w10 hbox hb; have BK102 := Aside0.mk (hbox); have GW102 := zgs HB hg; have GE102 := zgs HB hg; replace HB := zbs HB hb; clear hb hbox hg; obtain ⟨hcz11_0, hcz11_1, hfz11_0, hfz11_1⟩ := zce2 BK102.out))
    go_ret
    exact ⟨zq6, zbz⟩

end Go.Proofs.Ytmhaiihjfgfaoaa.Pr
end
section
namespace Go.Proofs.Ytmhaiihjfgfaoaa.Pr
open Go.RowKit Go.Proofs.YtmhaiihjfgfaoaaW.PrintWords Go.Proofs.YtmhaiihjfgfaoaaW.PrintLast Go.Proofs.YtmhaiihjfgfaoaaW.PrintMore
attribute [local go_sem] max2_int min2_int max_two min_two max_four
set_option linter.unusedVariables false
set_option linter.unusedSimpArgs false

/-! ### isobathref03_bounded: function 78 -/
def isobathref03_bounded.f (a0_0 : Int) (a0_1 : Int) (a1 : Int) (a2 : Int) : Option (Bool) := (isobathref01_Valid.f a0_0 a0_1).bind fun t106 => (if t106 = true then (if a0_0 ≥ a1 then (some (decide (a0_1 ≤ a2))) else (some false)) else (some false))
set_option maxHeartbeats 8000000 in
set_option maxRecDepth 100000 in
theorem isobathref03_bounded.calls (a0_0 : Int) (a0_1 : Int) (a1 : Int) (a2 : Int) (r : Bool) (w : World) (h : isobathref03_bounded.f a0_0 a0_1 a1 a2 = some r) :
    Calls Try.prog 78 #[.agg #[.int .i64 a0_0, .int .i64 a0_1], .int .i64 a1, .int .i64 a2] w fun e w' => e = .returned (.bool r) ∧ Below w.heap.size w w' := by
  have hu27 := Try.underlying27
  have HB := Aside0.mk (Below.refl w.heap.size w)
  have H : ((isobathref01_Valid.f a0_0 a0_1).bind fun t106 => (if t106 = true then (if a0_0 ≥ a1 then (some (decide (a0_1 ≤ a2))) else (some false)) else (some false))) = some r := h
  clear h
  replace H := Option.bind_eq_some_iff.mp H
  obtain ⟨t106, A40, H⟩ := H
  replace H : (if t106 = true then (if a0_0 ≥ a1 then (some (decide (a0_1 ≤ a2))) else (some false)) else (some false)) = some r := H
  have A4 := Aside0.mk A40
  clear A40
  by_cases c5 : t106 = true
  · subst c5
    have H1 : (if a0_0 ≥ a1 then (some (decide (a0_1 ≤ a2))) else (some false)) = some r := by rw [if_pos rfl] at H; exact H
    clear H
    have H := H1
    clear H1
    by_cases c6 : a0_0 ≥ a1
    · rw [if_pos c6] at H
      have c6b0 : decide (a1 ≤ a0_0) = true := decide_eq_true c6
      clear c6
      obtain rfl := Option.some.inj H
      go_enter Try.func78, Try.ntmps78
      go_wp2_with (first | ((with_reducible refine gate_dst (N := 3) rfl ?_); refine box_event (by rfl) (N := 3) (by rfl) (cs := #[.int .i64 a0_0, .int .i64 a0_1]) (t := 27) zq5 ?_; intro gb105 hg w7 hbox hb; have BK105 := Aside0.mk (hbox); have GW105 := zgs HB hg; have GE105 := zgs HB hg; replace HB := zbs HB hb; clear hb hbox hg; obtain ⟨hcz8_0, hcz8_1, hfz8_0, hfz8_1⟩ := zce2 BK105.out) | ((with_reducible refine gate_callee (f := 111) rfl ?_); refine goesL_ (some 8) rfl rfl Try.func111 zq1 rfl #[.agg #[.int .i64 a0_0, .int .i64 a0_1]] rfl zq8 ?_; (with_reducible refine (isobathref01_Valid.calls a0_0 a0_1 true _ A4.out).mono ?_); rintro e w9 ⟨rfl, hb⟩; refine ⟨_, rfl, ?_⟩; replace BK105 := zbb BK105 hb; replace HB := zbs HB hb; (try clear hb); (try clear hb2); (try clear hk); (try clear hi); obtain ⟨hcz10_0, hcz10_1, hfz10_0, hfz10_1⟩ := zce2 BK105.out))
      go_ret
      exact ⟨zq6, zbz⟩
    · rw [if_neg c6] at H
      have c6b0 : decide (a1 ≤ a0_0) = false := decide_eq_false c6
      clear c6
      obtain rfl := Option.some.inj H
      go_enter Try.func78, Try.ntmps78
      go_wp2_with (first | ((with_reducible refine gate_dst (N := 3) rfl ?_); refine box_event (by rfl) (N := 3) (by rfl) (cs := #[.int .i64 a0_0, .int .i64 a0_1]) (t := 27) zq5 ?_; intro gb105 hg w11 hbox hb; have BK105 := Aside0.mk (hbox); have GW105 := zgs HB hg; have GE105 := zgs HB hg; replace HB := zbs HB hb; clear hb hbox hg; obtain ⟨hcz12_0, hcz12_1, hfz12_0, hfz12_1⟩ := zce2 BK105.out) | ((with_reducible refine gate_callee (f := 111) rfl ?_); refine goesL_ (some 8) rfl rfl Try.func111 zq1 rfl #[.agg #[.int .i64 a0_0, .int .i64 a0_1]] rfl zq8 ?_; (with_reducible refine (isobathref01_Valid.calls a0_0 a0_1 true _ A4.out).mono ?_); rintro e w13 ⟨rfl, hb⟩; refine ⟨_, rfl, ?_⟩; replace BK105 := zbb BK105 hb; replace HB := zbs HB hb; (try clear hb); (try clear hb2); (try clear hk); (try clear hi); obtain ⟨hcz14_0, hcz14_1, hfz14_0, hfz14_1⟩ := zce2 BK105.out))
      go_ret
      exact ⟨zq6, zbz⟩
  · replace c5 := Bool.eq_false_iff.mpr c5
    subst c5
    have H1 : (some false) = some r := by rw [if_neg (show ¬ (false = true) by decide)] at H; exact H
    clear H
    have H := H1
    clear H1
    obtain rfl := Option.some.inj H
    go_enter Try.func78, Try.ntmps78
    go_wp2_with (first | ((with_reducible refine gate_dst (N := 3) rfl ?_); refine box_event (by rfl) (N := 3) (by rfl) (cs := #[.int .i64 a0_0, .int .i64 a0_1]) (t := 27) zq5 ?_; intro gb105 hg w15 hbox hb; have BK105 := Aside0.mk (hbox); have GW105 := zgs HB hg; have GE105 := zgs HB hg; replace HB := zbs HB hb; clear hb hbox hg; obtain ⟨hcz16_0, hcz16_1, hfz16_0, hfz16_1⟩ := zce2 BK105.out) | ((with_reducible refine gate_callee (f := 111) rfl ?_); refine goesL_ (some 8) rfl rfl Try.func111 zq1 rfl #[.agg #[.int .i64 a0_0, .int .i64 a0_1]] rfl zq8 ?_; (with_reducible refine (isobathref01_Valid.calls a0_0 a0_1 false _ A4.out).mono ?_); rintro e w17 ⟨rfl, hb⟩; refine ⟨_, rfl, ?_⟩; replace BK105 := zbb BK105 hb; replace HB := zbs HB hb; (try clear hb); (try clear hb2); (try clear hk); (try clear hi)))
    go_ret
    exact ⟨zq6, zbz⟩

end Go.Proofs.Ytmhaiihjfgfaoaa.Pr
end
section
namespace Go.Proofs.Ytmhaiihjfgfaoaa.Pr
open Go.RowKit Go.Proofs.YtmhaiihjfgfaoaaW.PrintWords Go.Proofs.YtmhaiihjfgfaoaaW.PrintLast Go.Proofs.YtmhaiihjfgfaoaaW.PrintMore
attribute [local go_sem] max2_int min2_int max_two min_two max_four
set_option linter.unusedVariables false
set_option linter.unusedSimpArgs false

/-! ### isobathref03_CheckVehicle: function 28 -/
def isobathref03_CheckVehicle.f (a0_0 : Int) (a0_1 : Int) (a0_2 : Int) (a0_3 : Int) (a0_4 : Int) (a0_5 : Int) (a0_6 : Int) : Option (Int) := if a0_0 < 0 then (some 2) else (if a0_0 > 5000 then (some 2) else (if a0_1 < 1 then (some 2) else (if a0_1 > 131072 then (some 2) else ((isobathref03_bounded.f a0_2 a0_3 0 1073741824).bind fun t113 => (if t113 = true then ((isobathref03_bounded.f a0_4 a0_5 0 1073741824).bind fun t114 => (if t114 = true then (if a0_6 < 0 then (some 2) else (if a0_6 > 1073741824 then (some 2) else (some 0))) else (some 2))) else (some 2))))))
set_option maxHeartbeats 8000000 in
set_option maxRecDepth 100000 in
theorem isobathref03_CheckVehicle.calls (a0_0 : Int) (a0_1 : Int) (a0_2 : Int) (a0_3 : Int) (a0_4 : Int) (a0_5 : Int) (a0_6 : Int) (r : Int) (w : World) (h : isobathref03_CheckVehicle.f a0_0 a0_1 a0_2 a0_3 a0_4 a0_5 a0_6 = some r) :
    Calls Try.prog 28 #[.agg #[.int .i64 a0_0, .int .i64 a0_1, .int .i64 a0_2, .int .i64 a0_3, .int .i64 a0_4, .int .i64 a0_5, .int .i64 a0_6]] w fun e w' => e = .returned (.int .i64 r) ∧ Below w.heap.size w w' := by
  have hu29 := Try.underlying29
  have hu27 := Try.underlying27
  have HB := Aside0.mk (Below.refl w.heap.size w)
  have H : (if a0_0 < 0 then (some 2) else (if a0_0 > 5000 then (some 2) else (if a0_1 < 1 then (some 2) else (if a0_1 > 131072 then (some 2) else ((isobathref03_bounded.f a0_2 a0_3 0 1073741824).bind fun t113 => (if t113 = true then ((isobathref03_bounded.f a0_4 a0_5 0 1073741824).bind fun t114 => (if t114 = true then (if a0_6 < 0 then (some 2) else (if a0_6 > 1073741824 then (some 2) else (some 0))) else (some 2))) else (some 2))))))) = some r := h
  clear h
  by_cases c2 : a0_0 < 0
  · rw [if_pos c2] at H
    have c2b0 : decide (a0_0 < 0) = true := decide_eq_true c2
    clear c2
    obtain rfl := Option.some.inj H
    go_enter Try.func28, Try.ntmps28
    go_wp2_with (first | ((with_reducible refine gate_dst (N := 1) rfl ?_); refine box_event (by rfl) (N := 1) (by rfl) (cs := #[.int .i64 a0_0, .int .i64 a0_1, .int .i64 a0_2, .int .i64 a0_3, .int .i64 a0_4, .int .i64 a0_5, .int .i64 a0_6]) (t := 29) zq5 ?_; intro gb112 hg w3 hbox hb; have BK112 := Aside0.mk (hbox); have GW112 := zgs HB hg; have GE112 := zgs HB hg; replace HB := zbs HB hb; clear hb hbox hg; obtain ⟨hcz4_0, hcz4_1, hcz4_2, hcz4_3, hcz4_4, hcz4_5, hcz4_6, hfz4_0, hfz4_1, hfz4_2, hfz4_3, hfz4_4, hfz4_5, hfz4_6⟩ := zce7 BK112.out))
    go_ret
    exact ⟨zq6, zbz⟩
  · rw [if_neg c2] at H
    have c2b0 : decide (a0_0 < 0) = false := decide_eq_false c2
    clear c2
    by_cases c5 : a0_0 > 5000
    · rw [if_pos c5] at H
      have c5b0 : decide (5000 < a0_0) = true := decide_eq_true c5
      clear c5
      obtain rfl := Option.some.inj H
      go_enter Try.func28, Try.ntmps28
      go_wp2_with (first | ((with_reducible refine gate_dst (N := 1) rfl ?_); refine box_event (by rfl) (N := 1) (by rfl) (cs := #[.int .i64 a0_0, .int .i64 a0_1, .int .i64 a0_2, .int .i64 a0_3, .int .i64 a0_4, .int .i64 a0_5, .int .i64 a0_6]) (t := 29) zq5 ?_; intro gb112 hg w6 hbox hb; have BK112 := Aside0.mk (hbox); have GW112 := zgs HB hg; have GE112 := zgs HB hg; replace HB := zbs HB hb; clear hb hbox hg; obtain ⟨hcz7_0, hcz7_1, hcz7_2, hcz7_3, hcz7_4, hcz7_5, hcz7_6, hfz7_0, hfz7_1, hfz7_2, hfz7_3, hfz7_4, hfz7_5, hfz7_6⟩ := zce7 BK112.out))
      go_ret
      exact ⟨zq6, zbz⟩
    · rw [if_neg c5] at H
      have c5b0 : decide (5000 < a0_0) = false := decide_eq_false c5
      clear c5
      by_cases c8 : a0_1 < 1
      · rw [if_pos c8] at H
        have c8b0 : decide (a0_1 < 1) = true := decide_eq_true c8
        clear c8
        obtain rfl := Option.some.inj H
        go_enter Try.func28, Try.ntmps28
        go_wp2_with (first | ((with_reducible refine gate_dst (N := 1) rfl ?_); refine box_event (by rfl) (N := 1) (by rfl) (cs := #[.int .i64 a0_0, .int .i64 a0_1, .int .i64 a0_2, .int .i64 a0_3, .int .i64 a0_4, .int .i64 a0_5, .int .i64 a0_6]) (t := 29) zq5 ?_; intro gb112 hg w9 hbox hb; have BK112 := Aside0.mk (hbox); have GW112 := zgs HB hg; have GE112 := zgs HB hg; replace HB := zbs HB hb; clear hb hbox hg; obtain ⟨hcz10_0, hcz10_1, hcz10_2, hcz10_3, hcz10_4, hcz10_5, hcz10_6, hfz10_0, hfz10_1, hfz10_2, hfz10_3, hfz10_4, hfz10_5, hfz10_6⟩ := zce7 BK112.out))
        go_ret
        exact ⟨zq6, zbz⟩
      · rw [if_neg c8] at H
        have c8b0 : decide (a0_1 < 1) = false := decide_eq_false c8
        clear c8
        by_cases c11 : a0_1 > 131072
        · rw [if_pos c11] at H
          have c11b0 : decide (131072 < a0_1) = true := decide_eq_true c11
          clear c11
          obtain rfl := Option.some.inj H
          go_enter Try.func28, Try.ntmps28
          go_wp2_with (first | ((with_reducible refine gate_dst (N := 1) rfl ?_); refine box_event (by rfl) (N := 1) (by rfl) (cs := #[.int .i64 a0_0, .int .i64 a0_1, .int .i64 a0_2, .int .i64 a0_3, .int .i64 a0_4, .int .i64 a0_5, .int .i64 a0_6]) (t := 29) zq5 ?_; intro gb112 hg w12 hbox hb; have BK112 := Aside0.mk (hbox); have GW112 := zgs HB hg; have GE112 := zgs HB hg; replace HB := zbs HB hb; clear hb hbox hg; obtain ⟨hcz13_0, hcz13_1, hcz13_2, hcz13_3, hcz13_4, hcz13_5, hcz13_6, hfz13_0, hfz13_1, hfz13_2, hfz13_3, hfz13_4, hfz13_5, hfz13_6⟩ := zce7 BK112.out))
          go_ret
          exact ⟨zq6, zbz⟩
        · rw [if_neg c11] at H
          have c11b0 : decide (131072 < a0_1) = false := decide_eq_false c11
          clear c11
          replace H := Option.bind_eq_some_iff.mp H
          obtain ⟨t113, A140, H⟩ := H
          replace H : (if t113 = true then ((isobathref03_bounded.f a0_4 a0_5 0 1073741824).bind fun t114 => (if t114 = true then (if a0_6 < 0 then (some 2) else (if a0_6 > 1073741824 then (some 2) else (some 0))) else (some 2))) else (some 2)) = some r := H
          have A14 := Aside0.mk A140
          clear A140
          by_cases c15 : t113 = true
          · subst c15
            have H1 : ((isobathref03_bounded.f a0_4 a0_5 0 1073741824).bind fun t114 => (if t114 = true then (if a0_6 < 0 then (some 2) else (if a0_6 > 1073741824 then (some 2) else (some 0))) else (some 2))) = some r := by rw [if_pos rfl] at H; exact H
            clear H
            have H := H1
            clear H1
            replace H := Option.bind_eq_some_iff.mp H
            obtain ⟨t114, A160, H⟩ := H
            replace H : (if t114 = true then (if a0_6 < 0 then (some 2) else (if a0_6 > 1073741824 then (some 2) else (some 0))) else (some 2)) = some r := H
            have A16 := Aside0.mk A160
            clear A160
            by_cases c17 : t114 = true
            · subst c17
              have H1 : (if a0_6 < 0 then (some 2) else (if a0_6 > 1073741824 then (some 2) else (some 0))) = some r := by rw [if_pos rfl] at H; exact H
              clear H
              have H := H1
              clear H1
              by_cases c18 : a0_6 < 0
              · rw [if_pos c18] at H
                have c18b0 : decide (a0_6 < 0) = true := decide_eq_true c18
                clear c18
                obtain rfl := Option.some.inj H
                go_enter Try.func28, Try.ntmps28
                go_wp2_with (first | ((with_reducible refine gate_dst (N := 1) rfl ?_); refine box_event (by rfl) (N := 1) (by rfl) (cs := #[.int .i64 a0_0, .int .i64 a0_1, .int .i64 a0_2, .int .i64 a0_3, .int .i64 a0_4, .int .i64 a0_5, .int .i64 a0_6]) (t := 29) zq5 ?_; intro gb112 hg w19 hbox hb; have BK112 := Aside0.mk (hbox); have GW112 := zgs HB hg; have GE112 := zgs HB hg; replace HB := zbs HB hb; clear hb hbox hg; obtain ⟨hcz20_0, hcz20_1, hcz20_2, hcz20_3, hcz20_4, hcz20_5, hcz20_6, hfz20_0, hfz20_1, hfz20_2, hfz20_3, hfz20_4, hfz20_5, hfz20_6⟩ := zce7 BK112.out) | (go_at_call 78; (with_reducible refine (isobathref03_bounded.calls a0_2 a0_3 0 1073741824 true _ A14.out).mono ?_); rintro e w21 ⟨rfl, hb⟩; replace BK112 := zbb BK112 hb; replace HB := zbs HB hb; (try clear hb); (try clear hb2); (try clear hk); (try clear hi); obtain ⟨hcz22_0, hcz22_1, hcz22_2, hcz22_3, hcz22_4, hcz22_5, hcz22_6, hfz22_0, hfz22_1, hfz22_2, hfz22_3, hfz22_4, hfz22_5, hfz22_6⟩ := zce7 BK112.out) | (go_at_call 78; (with_reducible refine (isobathref03_bounded.calls a0_4 a0_5 0 1073741824 true _ A16.out).mono ?_); rintro e w23 ⟨rfl, hb⟩; replace BK112 := zbb BK112 hb; replace HB := zbs HB hb; (try clear hb); (try clear hb2); (try clear hk); (try clear hi); obtain ⟨hcz24_0, hcz24_1, hcz24_2, hcz24_3, hcz24_4, hcz24_5, hcz24_6, hfz24_0, hfz24_1, hfz24_2, hfz24_3, hfz24_4, hfz24_5, hfz24_6⟩ := zce7 BK112.out))
                go_ret
                exact ⟨zq6, zbz⟩
              · rw [if_neg c18] at H
                have c18b0 : decide (a0_6 < 0) = false := decide_eq_false c18
                clear c18
                by_cases c25 : a0_6 > 1073741824
                · rw [if_pos c25] at H
                  have c25b0 : decide (1073741824 < a0_6) = true := decide_eq_true c25
                  clear c25
                  obtain rfl := Option.some.inj H
                  go_enter Try.func28, Try.ntmps28
                  go_wp2_with (first | ((with_reducible refine gate_dst (N := 1) rfl ?_); refine box_event (by rfl) (N := 1) (by rfl) (cs := #[.int .i64 a0_0, .int .i64 a0_1, .int .i64 a0_2, .int .i64 a0_3, .int .i64 a0_4, .int .i64 a0_5, .int .i64 a0_6]) (t := 29) zq5 ?_; intro gb112 hg w26 hbox hb; have BK112 := Aside0.mk (hbox); have GW112 := zgs HB hg; have GE112 := zgs HB hg; replace HB := zbs HB hb; clear hb hbox hg; obtain ⟨hcz27_0, hcz27_1, hcz27_2, hcz27_3, hcz27_4, hcz27_5, hcz27_6, hfz27_0, hfz27_1, hfz27_2, hfz27_3, hfz27_4, hfz27_5, hfz27_6⟩ := zce7 BK112.out) | (go_at_call 78; (with_reducible refine (isobathref03_bounded.calls a0_2 a0_3 0 1073741824 true _ A14.out).mono ?_); rintro e w28 ⟨rfl, hb⟩; replace BK112 := zbb BK112 hb; replace HB := zbs HB hb; (try clear hb); (try clear hb2); (try clear hk); (try clear hi); obtain ⟨hcz29_0, hcz29_1, hcz29_2, hcz29_3, hcz29_4, hcz29_5, hcz29_6, hfz29_0, hfz29_1, hfz29_2, hfz29_3, hfz29_4, hfz29_5, hfz29_6⟩ := zce7 BK112.out) | (go_at_call 78; (with_reducible refine (isobathref03_bounded.calls a0_4 a0_5 0 1073741824 true _ A16.out).mono ?_); rintro e w30 ⟨rfl, hb⟩; replace BK112 := zbb BK112 hb; replace HB := zbs HB hb; (try clear hb); (try clear hb2); (try clear hk); (try clear hi); obtain ⟨hcz31_0, hcz31_1, hcz31_2, hcz31_3, hcz31_4, hcz31_5, hcz31_6, hfz31_0, hfz31_1, hfz31_2, hfz31_3, hfz31_4, hfz31_5, hfz31_6⟩ := zce7 BK112.out))
                  go_ret
                  exact ⟨zq6, zbz⟩
                · rw [if_neg c25] at H
                  have c25b0 : decide (1073741824 < a0_6) = false := decide_eq_false c25
                  clear c25
                  obtain rfl := Option.some.inj H
                  go_enter Try.func28, Try.ntmps28
                  go_wp2_with (first | ((with_reducible refine gate_dst (N := 1) rfl ?_); refine box_event (by rfl) (N := 1) (by rfl) (cs := #[.int .i64 a0_0, .int .i64 a0_1, .int .i64 a0_2, .int .i64 a0_3, .int .i64 a0_4, .int .i64 a0_5, .int .i64 a0_6]) (t := 29) zq5 ?_; intro gb112 hg w32 hbox hb; have BK112 := Aside0.mk (hbox); have GW112 := zgs HB hg; have GE112 := zgs HB hg; replace HB := zbs HB hb; clear hb hbox hg; obtain ⟨hcz33_0, hcz33_1, hcz33_2, hcz33_3, hcz33_4, hcz33_5, hcz33_6, hfz33_0, hfz33_1, hfz33_2, hfz33_3, hfz33_4, hfz33_5, hfz33_6⟩ := zce7 BK112.out) | (go_at_call 78; (with_reducible refine (isobathref03_bounded.calls a0_2 a0_3 0 1073741824 true _ A14.out).mono ?_); rintro e w34 ⟨rfl, hb⟩; replace BK112 := zbb BK112 hb; replace HB := zbs HB hb; (try clear hb); (try clear hb2); (try clear hk); (try clear hi); obtain ⟨hcz35_0, hcz35_1, hcz35_2, hcz35_3, hcz35_4, hcz35_5, hcz35_6, hfz35_0, hfz35_1, hfz35_2, hfz35_3, hfz35_4, hfz35_5, hfz35_6⟩ := zce7 BK112.out) | (go_at_call 78; (with_reducible refine (isobathref03_bounded.calls a0_4 a0_5 0 1073741824 true _ A16.out).mono ?_); rintro e w36 ⟨rfl, hb⟩; replace BK112 := zbb BK112 hb; replace HB := zbs HB hb; (try clear hb); (try clear hb2); (try clear hk); (try clear hi); obtain ⟨hcz37_0, hcz37_1, hcz37_2, hcz37_3, hcz37_4, hcz37_5, hcz37_6, hfz37_0, hfz37_1, hfz37_2, hfz37_3, hfz37_4, hfz37_5, hfz37_6⟩ := zce7 BK112.out))
                  go_ret
                  exact ⟨zq6, zbz⟩
            · replace c17 := Bool.eq_false_iff.mpr c17
              subst c17
              have H1 : (some 2) = some r := by rw [if_neg (show ¬ (false = true) by decide)] at H; exact H
              clear H
              have H := H1
              clear H1
              obtain rfl := Option.some.inj H
              go_enter Try.func28, Try.ntmps28
              go_wp2_with (first | ((with_reducible refine gate_dst (N := 1) rfl ?_); refine box_event (by rfl) (N := 1) (by rfl) (cs := #[.int .i64 a0_0, .int .i64 a0_1, .int .i64 a0_2, .int .i64 a0_3, .int .i64 a0_4, .int .i64 a0_5, .int .i64 a0_6]) (t := 29) zq5 ?_; intro gb112 hg w38 hbox hb; have BK112 := Aside0.mk (hbox); have GW112 := zgs HB hg; have GE112 := zgs HB hg; replace HB := zbs HB hb; clear hb hbox hg; obtain ⟨hcz39_0, hcz39_1, hcz39_2, hcz39_3, hcz39_4, hcz39_5, hcz39_6, hfz39_0, hfz39_1, hfz39_2, hfz39_3, hfz39_4, hfz39_5, hfz39_6⟩ := zce7 BK112.out) | (go_at_call 78; (with_reducible refine (isobathref03_bounded.calls a0_2 a0_3 0 1073741824 true _ A14.out).mono ?_); rintro e w40 ⟨rfl, hb⟩; replace BK112 := zbb BK112 hb; replace HB := zbs HB hb; (try clear hb); (try clear hb2); (try clear hk); (try clear hi); obtain ⟨hcz41_0, hcz41_1, hcz41_2, hcz41_3, hcz41_4, hcz41_5, hcz41_6, hfz41_0, hfz41_1, hfz41_2, hfz41_3, hfz41_4, hfz41_5, hfz41_6⟩ := zce7 BK112.out) | (go_at_call 78; (with_reducible refine (isobathref03_bounded.calls a0_4 a0_5 0 1073741824 false _ A16.out).mono ?_); rintro e w42 ⟨rfl, hb⟩; replace BK112 := zbb BK112 hb; replace HB := zbs HB hb; (try clear hb); (try clear hb2); (try clear hk); (try clear hi)))
              go_ret
              exact ⟨zq6, zbz⟩
          · replace c15 := Bool.eq_false_iff.mpr c15
            subst c15
            have H1 : (some 2) = some r := by rw [if_neg (show ¬ (false = true) by decide)] at H; exact H
            clear H
            have H := H1
            clear H1
            obtain rfl := Option.some.inj H
            go_enter Try.func28, Try.ntmps28
            go_wp2_with (first | ((with_reducible refine gate_dst (N := 1) rfl ?_); refine box_event (by rfl) (N := 1) (by rfl) (cs := #[.int .i64 a0_0, .int .i64 a0_1, .int .i64 a0_2, .int .i64 a0_3, .int .i64 a0_4, .int .i64 a0_5, .int .i64 a0_6]) (t := 29) zq5 ?_; intro gb112 hg w43 hbox hb; have BK112 := Aside0.mk (hbox); have GW112 := zgs HB hg; have GE112 := zgs HB hg; replace HB := zbs HB hb; clear hb hbox hg; obtain ⟨hcz44_0, hcz44_1, hcz44_2, hcz44_3, hcz44_4, hcz44_5, hcz44_6, hfz44_0, hfz44_1, hfz44_2, hfz44_3, hfz44_4, hfz44_5, hfz44_6⟩ := zce7 BK112.out) | (go_at_call 78; (with_reducible refine (isobathref03_bounded.calls a0_2 a0_3 0 1073741824 false _ A14.out).mono ?_); rintro e w45 ⟨rfl, hb⟩; replace BK112 := zbb BK112 hb; replace HB := zbs HB hb; (try clear hb); (try clear hb2); (try clear hk); (try clear hi)))
            go_ret
            exact ⟨zq6, zbz⟩

end Go.Proofs.Ytmhaiihjfgfaoaa.Pr
end
