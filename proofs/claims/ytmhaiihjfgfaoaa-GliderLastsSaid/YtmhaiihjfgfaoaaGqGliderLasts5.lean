/- Part 5 of the proof of GliderLasts: what the functions compute. No condition. -/
import Derived.Test.YtmhaiihjfgfaoaaGqGliderLasts2
import Derived.Test.YtmhaiihjfgfaoaaGqGliderLasts4
import Derived.Test.YtmhaiihjfgfaoaaGqGliderLasts1
section
/- A trip, as the program makes it, or the error. -/
namespace Go.Proofs.Ytmhaiihjfgfaoaa.Gl
open Go.RowKit Go.Shelf Go.Proofs.YtmhaiihjfgfaoaaW.PrintWords Go.Proofs.YtmhaiihjfgfaoaaW.PrintLast Go.Proofs.YtmhaiihjfgfaoaaW.PrintMore Go.Proofs.Ytmhaiihjfgfaoaa.Pr Go.Proofs.YtmhaiihjfgfaoaaW.Round
set_option linter.unusedVariables false
set_option linter.unusedSimpArgs false
attribute [local go_sem] max2_int min2_int max_two min_two max_four
theorem wrap_id' {n : Int} (h0 : -9223372036854775808 ≤ n) (h1 : n ≤ 9223372036854775807) : wrap64 n = n := by unfold wrap64; omega
/-- Is a vehicle valid? -/
def vehB (v : Veh) : Bool := btwB v.speed 0 5000 && btwB v.dive 1 131072 && bndB v.use.f0 v.use.f1 0 1073741824 && bndB v.drift.f0 v.drift.f1 0 1073741824 && btwB v.reserve 0 1073741824
def vehE (v : Veh) : Int := if vehB v then 0 else 2
theorem btw_some (x lo hi : Int) : glider_between.f x lo hi = some (btwB x lo hi) := by
  unfold glider_between.f btwB
  by_cases h : x ≥ lo
  · rw [if_pos h, show decide (lo ≤ x) = true from decide_eq_true h]; simp
  · rw [if_neg h, show decide (lo ≤ x) = false from decide_eq_false h]; simp
theorem veh_some (v : Veh) : glider_CheckVehicle.f 4 v.speed v.dive v.use.f0 v.use.f1 v.drift.f0 v.drift.f1 v.reserve = some (vehE v) := by
  unfold glider_CheckVehicle.f vehE vehB
  simp only [btw_some, bnd_some 2, Option.bind_some]
  cases btwB v.speed 0 5000 <;> cases btwB v.dive 1 131072 <;> cases bndB v.use.f0 v.use.f1 0 1073741824 <;> cases bndB v.drift.f0 v.drift.f1 0 1073741824 <;> cases btwB v.reserve 0 1073741824 <;> rfl
theorem veh_any (v : Veh) (w : World) : Calls Try.prog 27 #[.agg #[.int .i64 v.speed, .int .i64 v.dive, .int .i64 v.use.f0, .int .i64 v.use.f1, .int .i64 v.drift.f0, .int .i64 v.drift.f1, .int .i64 v.reserve]] w (RetB (.int .i64 (vehE v)) w) := glider_CheckVehicle.calls 4 _ _ _ _ _ _ _ _ w (veh_some v)
/-- Is a box valid? -/
def boxB (x : S31) : Bool := (okS x.f0.f0 x.f0.f1 && okS x.f1.f0 x.f1.f1) && (btwB x.f0.f0 (-268435456) 268435456 && btwB x.f0.f1 (-268435456) 268435456 && btwB x.f1.f0 (-268435456) 268435456 && btwB x.f1.f1 (-268435456) 268435456)
def boxE (x : S31) : Int := if boxB x then 0 else 2
theorem check_two (k : Nat) (a b : S27) : bound_check.f (k + 3) [a, b] = some (if okS a.f0 a.f1 && okS b.f0 b.f1 then 0 else 2) := by
  unfold bound_check.f
  have e1 : (([a, b] : List S27).length : Int) = 2 := rfl
  have r0 : rd_T27 [a, b] 0 = a := rfl
  have r1 : rd_T27 [a, b] 1 = b := rfl
  have w1 : wrap64 (0 + 1) = 1 := wrap_id' (by decide) (by decide)
  have w2 : wrap64 (1 + 1) = 2 := wrap_id' (by decide) (by decide)
  have step : ∀ (c : S27) (r : Option Int), (if c.f0 > c.f1 then some 2 else if c.f0 < -1073741824 then some 2 else if c.f1 > 1073741824 then some 2 else r) = if okS c.f0 c.f1 then r else some 2 := by
    intro c r
    cases h : okS c.f0 c.f1 with
    | true =>
      have := okS_iff.1 h
      rw [if_neg (by omega), if_neg (by omega), if_neg (by omega), if_pos rfl]
    | false =>
      have hn : ¬ (c.f0 ≤ c.f1 ∧ -1073741824 ≤ c.f0 ∧ c.f1 ≤ 1073741824) := fun h2 => by rw [okS_iff.2 h2] at h; cases h
      rw [show (if false = true then r else some 2) = some 2 from rfl]
      by_cases h1 : c.f0 > c.f1
      · rw [if_pos h1]
      · rw [if_neg h1]
        by_cases h2 : c.f0 < -1073741824
        · rw [if_pos h2]
        · rw [if_neg h2, if_pos (by omega)]
  simp only [bound_check.l0, e1]
  rw [if_pos (by decide), if_pos (by decide), if_pos (by decide), r0, step]
  cases ha : okS a.f0 a.f1 with
  | false => rfl
  | true =>
    rw [if_pos rfl, w1, if_pos (by decide), if_pos (by decide), if_pos (by decide), r1, step]
    cases hb : okS b.f0 b.f1 with
    | false => rfl
    | true =>
      rw [if_pos rfl, w2, if_neg (by decide)]
      rfl
theorem box_some (x : S31) : bound_CheckBox.f 4 x.f0.f0 x.f0.f1 x.f1.f0 x.f1.f1 = some (boxE x) := by
  unfold bound_CheckBox.f boxE boxB
  rw [check_two 1, Option.bind_some]
  cases h : (okS x.f0.f0 x.f0.f1 && okS x.f1.f0 x.f1.f1) with
  | false => rfl
  | true =>
    rw [Bool.and_eq_true] at h
    have h1 := okS_iff.1 h.1
    have h2 := okS_iff.1 h.2
    have am : ∀ a : Int, -1073741824 ≤ a → a ≤ 1073741824 → bound_amount.f a = some (max a (-a)) := fun a h0 h1 => by
      unfold bound_amount.f
      rw [mx_max', wrap_id' (by omega) (by omega)]
    rw [show (if (true = true) then (0 : Int) else 2) = 0 from rfl, if_pos rfl]
    simp only [am _ h1.2.1 (by omega), am _ (show -1073741824 ≤ x.f0.f1 by omega) h1.2.2, am _ h2.2.1 (by omega), am _ (show -1073741824 ≤ x.f1.f1 by omega) h2.2.2, Option.bind_some, mx_max']
    by_cases hb : max (max (max (max x.f0.f0 (-x.f0.f0)) (max x.f0.f1 (-x.f0.f1))) (max x.f1.f0 (-x.f1.f0))) (max x.f1.f1 (-x.f1.f1)) > 268435456
    · rw [if_pos hb, if_neg]
      rw [Bool.true_and, Bool.and_eq_true, Bool.and_eq_true, Bool.and_eq_true, btwB_iff, btwB_iff, btwB_iff, btwB_iff]
      omega
    · rw [if_neg hb, if_pos]
      rw [Bool.true_and, Bool.and_eq_true, Bool.and_eq_true, Bool.and_eq_true, btwB_iff, btwB_iff, btwB_iff, btwB_iff]
      omega
def placeE (x : S31) (t : Int) : Int := if boxE x ≠ 0 then boxE x else if btwB t 0 1073741824 then 0 else 3
theorem place_some (x : S31) (t : Int) : glider_checkPlace.f 4 x.f0.f0 x.f0.f1 x.f1.f0 x.f1.f1 t = some (placeE x t) := by
  unfold glider_checkPlace.f placeE
  rw [box_some, Option.bind_some, btw_some, Option.bind_some]
  by_cases h : boxE x = 0
  · rw [if_pos h, if_neg (show ¬ (boxE x ≠ 0) from fun h2 => h2 h)]
    cases btwB t 0 1073741824 <;> rfl
  · rw [if_neg h, if_pos h]
theorem place_any (x : S31) (t : Int) (w : World) : Calls Try.prog 114 #[.agg #[.int .i64 x.f0.f0, .int .i64 x.f0.f1, .int .i64 x.f1.f0, .int .i64 x.f1.f1], .int .i64 t] w (RetB (.int .i64 (placeE x t)) w) := glider_checkPlace.calls 4 _ _ _ _ _ _ w (place_some x t)
/-- Is a course valid, for so many layers? -/
def crsB (layers : Int) (c : S33) : Bool := btwB c.f0 0 8 && decide (0 ≤ c.f1) && (decide (layers < 0) || decide (c.f1 < layers))
def crsE (l : List S33) (layers : Int) : Int := if l.length > 64 then 6 else if l.all (crsB layers) then 0 else 2
theorem crs_loop (layers : Int) (l : List S33) (hl : l.length ≤ 64) : ∀ (m i k : Nat), i + m = l.length → m < k → glider_checkCourses.l0 k layers l (l.length : Int) (i : Int) = some (if (l.drop i).all (crsB layers) then 0 else 2) := by
  intro m
  induction m with
  | zero =>
    intro i k h hk
    obtain ⟨k, rfl⟩ : ∃ q, k = q + 1 := ⟨k - 1, by omega⟩
    rw [glider_checkCourses.l0, if_neg (by omega), List.drop_of_length_le (by omega)]
    rfl
  | succ m ih =>
    intro i k h hk
    obtain ⟨k, rfl⟩ : ∃ q, k = q + 1 := ⟨k - 1, by omega⟩
    have hi : i < l.length := by omega
    have hr : rd_T33 l (i : Int) = l[i] := by
      unfold rd_T33
      rw [List.getD_eq_getElem?_getD, Int.toNat_natCast, List.getElem?_eq_getElem hi]
      rfl
    have hih := ih (i + 1) k (by omega) (by omega)
    rw [glider_checkCourses.l0, if_pos (by omega), if_pos (by omega), if_pos (by omega), hr, wrap_id' (by omega) (by omega), show ((i : Int) + 1) = ((i + 1 : Nat) : Int) by omega, hih, List.drop_eq_getElem_cons hi, List.all_cons]
    cases hb : crsB layers l[i] with
    | true =>
      have hb2 : crsB layers l[i] = true := hb
      unfold crsB at hb2
      simp only [Bool.and_eq_true, Bool.or_eq_true, decide_eq_true_eq, btwB_iff] at hb2
      rw [Bool.true_and, if_neg (by omega), if_neg (by omega), if_neg (by omega)]
      by_cases h0 : layers ≥ 0
      · rw [if_pos h0, if_neg (by omega)]
      · rw [if_neg h0]
    | false =>
      have hn : ¬ ((0 ≤ l[i].f0 ∧ l[i].f0 ≤ 8) ∧ 0 ≤ l[i].f1 ∧ (layers < 0 ∨ l[i].f1 < layers)) := fun h2 => by
        have : crsB layers l[i] = true := by
          unfold crsB
          simp only [Bool.and_eq_true, Bool.or_eq_true, decide_eq_true_eq, btwB_iff]
          exact ⟨⟨h2.1, h2.2.1⟩, h2.2.2⟩
        rw [this] at hb
        cases hb
      rw [Bool.false_and, if_neg (show ¬ (false = true) by decide)]
      by_cases a1 : l[i].f0 < 0
      · rw [if_pos a1]
      · rw [if_neg a1]
        by_cases a2 : l[i].f0 ≥ 9
        · rw [if_pos a2]
        · rw [if_neg a2]
          by_cases a3 : l[i].f1 < 0
          · rw [if_pos a3]
          · rw [if_neg a3, if_pos (by omega), if_pos (by omega)]
theorem crs_some (l : List S33) (layers : Int) : glider_checkCourses.f 66 l layers = some (crsE l layers) := by
  unfold glider_checkCourses.f crsE
  by_cases h : l.length > 64
  · rw [if_pos (by omega), if_pos h]
  · rw [if_neg (by omega), if_neg h]
    have := crs_loop layers l (by omega) l.length 0 66 (by omega) (by omega)
    rw [List.drop_zero] at this
    exact this
theorem crs_any (A : Option Addr) (c : Nat) (l : List S33) (layers : Int) (w : World) (hC : Kd.C k33 w A l.length l) (hc : l.length ≤ c) : Calls Try.prog 65 #[.slice A l.length c, .int .i64 layers] w (RetB (.int .i64 (crsE l layers)) w) := glider_checkCourses.calls 66 _ _ _ _ _ w hC hc (crs_some l layers)
theorem sea_two (s : Sea) : (seaE s = 0 ∧ seaB s = true) ∨ seaE s = 2 := by
  unfold seaE
  cases seaB s
  · exact .inr rfl
  · exact .inl ⟨rfl, rfl⟩
theorem veh_two (v : Veh) : (vehE v = 0 ∧ vehB v = true) ∨ vehE v = 2 := by
  unfold vehE
  cases vehB v
  · exact .inr rfl
  · exact .inl ⟨rfl, rfl⟩
theorem bndB_iff {lo hi a b : Int} : bndB lo hi a b = true ↔ (lo ≤ hi ∧ -1073741824 ≤ lo ∧ hi ≤ 1073741824) ∧ a ≤ lo ∧ hi ≤ b := by unfold bndB; simp only [Bool.and_eq_true, decide_eq_true_eq, okS_iff]; exact and_assoc
theorem seaB_ok {s : Sea} (h : seaB s = true) : SeaV s := by
  unfold seaB at h
  simp only [Bool.and_eq_true, decide_eq_true_eq, btwB_iff, Bool.not_eq_true'] at h
  obtain ⟨⟨⟨⟨⟨⟨⟨⟨⟨h0, h1⟩, h2⟩, h3⟩, h4⟩, h5⟩, h6⟩, h7⟩, h8⟩, h9⟩ := h
  refine ⟨⟨h0, h1, h2, h3, h4, h5, h6⟩, h7, h8, fun c hc => ?_⟩
  have := List.any_eq_false.1 h9 c hc
  unfold badC at this
  simp only [Bool.not_eq_true, Bool.or_eq_false_iff, Bool.not_eq_false', bndB_iff] at this
  omega
theorem vehB_ok {v : Veh} (h : vehB v = true) : VehN v := by
  unfold vehB at h
  simp only [Bool.and_eq_true, btwB_iff] at h
  exact ⟨h.1.1.1.1, h.1.1.1.2⟩
theorem boxB_ok {x : S31} (h : boxE x = 0) : BoxOK x := by
  unfold boxE at h
  cases hb : boxB x with
  | false => rw [hb] at h; cases h
  | true =>
    unfold boxB at hb
    simp only [Bool.and_eq_true, btwB_iff, okS_iff] at hb
    unfold BoxOK SmallB
    omega
def tripE (s : Sea) (v : Veh) : Int := if seaE s ≠ 0 then seaE s else vehE v
theorem tripE_ok {s : Sea} {v : Veh} (h : tripE s v = 0) : SeaV s ∧ VehN v := by
  unfold tripE at h
  rcases sea_two s with ⟨h1, h2⟩ | h1
  · rw [if_neg (by omega)] at h
    rcases veh_two v with ⟨h3, h4⟩ | h3
    · exact ⟨seaB_ok h2, vehB_ok h4⟩
    · omega
  · rw [if_pos (by omega)] at h
    omega
def TripPost (s : Sea) (v : Veh) (E : Int) (w : World) (e : Ending) (w' : World) : Prop :=
  ∃ ptr, e = .returned (.tuple #[.pointer ptr, .int .i64 E]) ∧ Below w.heap.size w w' ∧ ((tripE s v = 0 ∧ ∃ g, ptr = some ⟨g, 0, none⟩ ∧ w.heap.size ≤ g ∧ TripAt w' g s v) ∨ (tripE s v ≠ 0 ∧ ptr = none))
set_option maxRecDepth 100000 in
set_option maxHeartbeats 4000000 in
theorem newTrip_any (s : Sea) (v : Veh) (A7 A8 : Option Addr) (c7 c8 : Nat) (w : World) (h7 : s.shores.length ≤ c7) (hC7 : Kd.C Kd.bool w A7 s.shores.length s.shores) (h8 : s.currents.length ≤ c8) (hC8 : Kd.C k40 w A8 s.currents.length s.currents) :
    Calls Try.prog 113 #[.agg #[.int .i64 s.nx, .int .i64 s.ny, .int .i64 s.cell, .int .i64 s.slot, .int .i64 s.slots, .int .i64 s.layers, .int .i64 s.most, .slice A7 s.shores.length c7, .slice A8 s.currents.length c8], .agg #[.int .i64 v.speed, .int .i64 v.dive, .int .i64 v.use.f0, .int .i64 v.use.f1, .int .i64 v.drift.f0, .int .i64 v.drift.f1, .int .i64 v.reserve]] w (TripPost s v (tripE s v) w) := by
  have hu25 := Try.underlying25
  have hu29 := Try.underlying29
  have hu110 := Try.underlying110
  have HE : Hid (tripE s v = if seaE s ≠ 0 then seaE s else vehE v) := Lib.hid rfl
  go_enter Try.func113, Try.ntmps113
  go_wp2_with fail
  have m2 : Blk ((w.alloc (.cells #[.int .i64 s.nx, .int .i64 s.ny, .int .i64 s.cell, .int .i64 s.slot, .int .i64 s.slots, .int .i64 s.layers, .int .i64 s.most, .slice A7 s.shores.length c7, .slice A8 s.currents.length c8] 25)).alloc (.cells #[.int .i64 v.speed, .int .i64 v.dive, .int .i64 v.use.f0, .int .i64 v.use.f1, .int .i64 v.drift.f0, .int .i64 v.drift.f1, .int .i64 v.reserve] 29)) (w.heap.size) #[.int .i64 s.nx, .int .i64 s.ny, .int .i64 s.cell, .int .i64 s.slot, .int .i64 s.slots, .int .i64 s.layers, .int .i64 s.most, .slice A7 s.shores.length c7, .slice A8 s.currents.length c8] 25 := (blk_alloc (by have h_ := blk_new w (.cells #[.int .i64 s.nx, .int .i64 s.ny, .int .i64 s.cell, .int .i64 s.slot, .int .i64 s.slots, .int .i64 s.layers, .int .i64 s.most, .slice A7 s.shores.length c7, .slice A8 s.currents.length c8] 25); first | exact h_ | (simp only [World.size_alloc] at h_; exact h_)) _)
  have m3 : Blk ((w.alloc (.cells #[.int .i64 s.nx, .int .i64 s.ny, .int .i64 s.cell, .int .i64 s.slot, .int .i64 s.slots, .int .i64 s.layers, .int .i64 s.most, .slice A7 s.shores.length c7, .slice A8 s.currents.length c8] 25)).alloc (.cells #[.int .i64 v.speed, .int .i64 v.dive, .int .i64 v.use.f0, .int .i64 v.use.f1, .int .i64 v.drift.f0, .int .i64 v.drift.f1, .int .i64 v.reserve] 29)) (w.heap.size + 1) #[.int .i64 v.speed, .int .i64 v.dive, .int .i64 v.use.f0, .int .i64 v.use.f1, .int .i64 v.drift.f0, .int .i64 v.drift.f1, .int .i64 v.reserve] 29 := (by have h_ := blk_new (w.alloc (.cells #[.int .i64 s.nx, .int .i64 s.ny, .int .i64 s.cell, .int .i64 s.slot, .int .i64 s.slots, .int .i64 s.layers, .int .i64 s.most, .slice A7 s.shores.length c7, .slice A8 s.currents.length c8] 25)) (.cells #[.int .i64 v.speed, .int .i64 v.dive, .int .i64 v.use.f0, .int .i64 v.use.f1, .int .i64 v.drift.f0, .int .i64 v.drift.f1, .int .i64 v.reserve] 29); first | exact h_ | (simp only [World.size_alloc] at h_; exact h_))
  have mB : Below w.heap.size w ((w.alloc (.cells #[.int .i64 s.nx, .int .i64 s.ny, .int .i64 s.cell, .int .i64 s.slot, .int .i64 s.slots, .int .i64 s.layers, .int .i64 s.most, .slice A7 s.shores.length c7, .slice A8 s.currents.length c8] 25)).alloc (.cells #[.int .i64 v.speed, .int .i64 v.dive, .int .i64 v.use.f0, .int .i64 v.use.f1, .int .i64 v.drift.f0, .int .i64 v.drift.f1, .int .i64 v.reserve] 29)) := (below_alloc (below_alloc (Below.refl w.heap.size w) _) _)
  have hsz_ : w.heap.size ≤ w.heap.size := Nat.le_refl _
  generalize hW_ : ((w.alloc (.cells #[.int .i64 s.nx, .int .i64 s.ny, .int .i64 s.cell, .int .i64 s.slot, .int .i64 s.slots, .int .i64 s.layers, .int .i64 s.most, .slice A7 s.shores.length c7, .slice A8 s.currents.length c8] 25)).alloc (.cells #[.int .i64 v.speed, .int .i64 v.dive, .int .i64 v.use.f0, .int .i64 v.use.f1, .int .i64 v.drift.f0, .int .i64 v.drift.f1, .int .i64 v.reserve] 29)) = W1 at m2 m3 mB ⊢
  clear hW_
  generalize hg2 : w.heap.size = g2 at m2 m3 ⊢
  have hG2 : w.heap.size ≤ g2 := by omega
  generalize hg3 : g2 + 1 = g3 at m3 ⊢
  have hn_2_3 : g2 ≠ g3 := by omega
  have hn_3_2 : g3 ≠ g2 := hn_2_3.symm
  have hG3 : w.heap.size ≤ g3 := by omega
  clear hsz_
  try clear hg3
  try clear hg2
  have hs_W1 : w.heap.size ≤ W1.heap.size := mB.size
  have hcon := sea_any s A7 A8 c7 c8 W1 h7 (Kd.C_below hC7 mB) h8 (Kd.C_below hC8 mB)
  (with_reducible refine hcon.mono ?_)
  clear hcon
  rintro e W2 ⟨rfl, hb⟩
  replace m2 := blk_below m2 hb
  replace m3 := blk_below m3 hb
  replace mB := below_step mB hb
  clear hb
  have hs_W2 : w.heap.size ≤ W2.heap.size := mB.size
  rcases sea_two s with ⟨h1, _⟩ | h1
  case inr =>
    have HZ : Hid (tripE s v = 2) := Lib.hid (HE.out.trans (by rw [h1]; rfl))
    rw [h1]
    clear h1 HE
    go_wp2
    go_ret2
    exact ⟨none, by rw [HZ.out]; rfl, mB, .inr ⟨by rw [HZ.out]; decide, rfl⟩⟩
  case inl =>
    have HE2 := Lib.hid (HE.out.trans (if_neg (by omega)))
    clear HE
    rw [h1]
    clear h1
    have c3_0 := (blk_cell m3 0).trans rfl
    have c3_1 := (blk_cell m3 1).trans rfl
    have c3_2 := (blk_cell m3 2).trans rfl
    have c3_3 := (blk_cell m3 3).trans rfl
    have c3_4 := (blk_cell m3 4).trans rfl
    have c3_5 := (blk_cell m3 5).trans rfl
    have c3_6 := (blk_cell m3 6).trans rfl
    go_wp2_with fail
    clear c3_0
    clear c3_1
    clear c3_2
    clear c3_3
    clear c3_4
    clear c3_5
    clear c3_6
    have hcon := veh_any v W2
    (with_reducible refine hcon.mono ?_)
    clear hcon
    rintro e W3 ⟨rfl, hb⟩
    replace m2 := blk_below m2 hb
    replace m3 := blk_below m3 hb
    replace mB := below_step mB hb
    clear hb
    have hs_W3 : w.heap.size ≤ W3.heap.size := mB.size
    rcases veh_two v with ⟨h1, _⟩ | h1
    case inr =>
      have HE := HE2
      have HZ : Hid (tripE s v = 2) := Lib.hid (HE2.out.trans h1)
      rw [h1]
      clear h1 HE
      go_wp2
      go_ret2
      exact ⟨none, by rw [HZ.out]; rfl, mB, .inr ⟨by rw [HZ.out]; decide, rfl⟩⟩
    case inl =>
      have HZ := Lib.hid (HE2.out.trans h1)
      rw [h1]
      clear h1 HE2
      have c2_0 := (blk_cell m2 0).trans rfl
      have c2_1 := (blk_cell m2 1).trans rfl
      have c2_2 := (blk_cell m2 2).trans rfl
      have c2_3 := (blk_cell m2 3).trans rfl
      have c2_4 := (blk_cell m2 4).trans rfl
      have c2_5 := (blk_cell m2 5).trans rfl
      have c2_6 := (blk_cell m2 6).trans rfl
      have c2_7 := (blk_cell m2 7).trans rfl
      have c2_8 := (blk_cell m2 8).trans rfl
      have c3_0 := (blk_cell m3 0).trans rfl
      have c3_1 := (blk_cell m3 1).trans rfl
      have c3_2 := (blk_cell m3 2).trans rfl
      have c3_3 := (blk_cell m3 3).trans rfl
      have c3_4 := (blk_cell m3 4).trans rfl
      have c3_5 := (blk_cell m3 5).trans rfl
      have c3_6 := (blk_cell m3 6).trans rfl
      go_wp2
      go_ret2
      exact ⟨_, by rw [HZ.out]; rfl, below_alloc mB _, .inl ⟨HZ.out, W3.heap.size, rfl, mB.size, A7, c7, A8, c8, blk_new W3 (.cells #[.int .i64 s.nx, .int .i64 s.ny, .int .i64 s.cell, .int .i64 s.slot, .int .i64 s.slots, .int .i64 s.layers, .int .i64 s.most, .slice A7 s.shores.length c7, .slice A8 s.currents.length c8, .int .i64 v.speed, .int .i64 v.dive, .int .i64 v.use.f0, .int .i64 v.use.f1, .int .i64 v.drift.f0, .int .i64 v.drift.f1, .int .i64 v.reserve] 110), h7, Kd.C_below hC7 (below_alloc mB _), h8, Kd.C_below hC8 (below_alloc mB _)⟩⟩
def beginE (s : Sea) (v : Veh) (x : S31) (t : Int) : Int := if tripE s v ≠ 0 then tripE s v else placeE x t
set_option maxRecDepth 100000 in
set_option maxHeartbeats 4000000 in
theorem begin_any (s : Sea) (v : Veh) (x : S31) (t : Int) (A7 A8 : Option Addr) (c7 c8 : Nat) (w : World) (h7 : s.shores.length ≤ c7) (hC7 : Kd.C Kd.bool w A7 s.shores.length s.shores) (h8 : s.currents.length ≤ c8) (hC8 : Kd.C k40 w A8 s.currents.length s.currents) :
    Calls Try.prog 64 #[.agg #[.int .i64 s.nx, .int .i64 s.ny, .int .i64 s.cell, .int .i64 s.slot, .int .i64 s.slots, .int .i64 s.layers, .int .i64 s.most, .slice A7 s.shores.length c7, .slice A8 s.currents.length c8], .agg #[.int .i64 v.speed, .int .i64 v.dive, .int .i64 v.use.f0, .int .i64 v.use.f1, .int .i64 v.drift.f0, .int .i64 v.drift.f1, .int .i64 v.reserve], .agg #[.int .i64 x.f0.f0, .int .i64 x.f0.f1, .int .i64 x.f1.f0, .int .i64 x.f1.f1], .int .i64 t] w (TripPost s v (beginE s v x t) w) := by
  have hu25 := Try.underlying25
  have hu29 := Try.underlying29
  have hu31 := Try.underlying31
  have HE : Hid (beginE s v x t = if tripE s v ≠ 0 then tripE s v else placeE x t) := Lib.hid rfl
  go_enter Try.func64, Try.ntmps64
  go_wp2_with fail
  have m4 : Blk (((w.alloc (.cells #[.int .i64 s.nx, .int .i64 s.ny, .int .i64 s.cell, .int .i64 s.slot, .int .i64 s.slots, .int .i64 s.layers, .int .i64 s.most, .slice A7 s.shores.length c7, .slice A8 s.currents.length c8] 25)).alloc (.cells #[.int .i64 v.speed, .int .i64 v.dive, .int .i64 v.use.f0, .int .i64 v.use.f1, .int .i64 v.drift.f0, .int .i64 v.drift.f1, .int .i64 v.reserve] 29)).alloc (.cells #[.int .i64 x.f0.f0, .int .i64 x.f0.f1, .int .i64 x.f1.f0, .int .i64 x.f1.f1] 31)) (w.heap.size) #[.int .i64 s.nx, .int .i64 s.ny, .int .i64 s.cell, .int .i64 s.slot, .int .i64 s.slots, .int .i64 s.layers, .int .i64 s.most, .slice A7 s.shores.length c7, .slice A8 s.currents.length c8] 25 := (blk_alloc (blk_alloc (by have h_ := blk_new w (.cells #[.int .i64 s.nx, .int .i64 s.ny, .int .i64 s.cell, .int .i64 s.slot, .int .i64 s.slots, .int .i64 s.layers, .int .i64 s.most, .slice A7 s.shores.length c7, .slice A8 s.currents.length c8] 25); first | exact h_ | (simp only [World.size_alloc] at h_; exact h_)) _) _)
  have m5 : Blk (((w.alloc (.cells #[.int .i64 s.nx, .int .i64 s.ny, .int .i64 s.cell, .int .i64 s.slot, .int .i64 s.slots, .int .i64 s.layers, .int .i64 s.most, .slice A7 s.shores.length c7, .slice A8 s.currents.length c8] 25)).alloc (.cells #[.int .i64 v.speed, .int .i64 v.dive, .int .i64 v.use.f0, .int .i64 v.use.f1, .int .i64 v.drift.f0, .int .i64 v.drift.f1, .int .i64 v.reserve] 29)).alloc (.cells #[.int .i64 x.f0.f0, .int .i64 x.f0.f1, .int .i64 x.f1.f0, .int .i64 x.f1.f1] 31)) (w.heap.size + 1) #[.int .i64 v.speed, .int .i64 v.dive, .int .i64 v.use.f0, .int .i64 v.use.f1, .int .i64 v.drift.f0, .int .i64 v.drift.f1, .int .i64 v.reserve] 29 := (blk_alloc (by have h_ := blk_new (w.alloc (.cells #[.int .i64 s.nx, .int .i64 s.ny, .int .i64 s.cell, .int .i64 s.slot, .int .i64 s.slots, .int .i64 s.layers, .int .i64 s.most, .slice A7 s.shores.length c7, .slice A8 s.currents.length c8] 25)) (.cells #[.int .i64 v.speed, .int .i64 v.dive, .int .i64 v.use.f0, .int .i64 v.use.f1, .int .i64 v.drift.f0, .int .i64 v.drift.f1, .int .i64 v.reserve] 29); first | exact h_ | (simp only [World.size_alloc] at h_; exact h_)) _)
  have m6 : Blk (((w.alloc (.cells #[.int .i64 s.nx, .int .i64 s.ny, .int .i64 s.cell, .int .i64 s.slot, .int .i64 s.slots, .int .i64 s.layers, .int .i64 s.most, .slice A7 s.shores.length c7, .slice A8 s.currents.length c8] 25)).alloc (.cells #[.int .i64 v.speed, .int .i64 v.dive, .int .i64 v.use.f0, .int .i64 v.use.f1, .int .i64 v.drift.f0, .int .i64 v.drift.f1, .int .i64 v.reserve] 29)).alloc (.cells #[.int .i64 x.f0.f0, .int .i64 x.f0.f1, .int .i64 x.f1.f0, .int .i64 x.f1.f1] 31)) (w.heap.size + 1 + 1) #[.int .i64 x.f0.f0, .int .i64 x.f0.f1, .int .i64 x.f1.f0, .int .i64 x.f1.f1] 31 := (by have h_ := blk_new ((w.alloc (.cells #[.int .i64 s.nx, .int .i64 s.ny, .int .i64 s.cell, .int .i64 s.slot, .int .i64 s.slots, .int .i64 s.layers, .int .i64 s.most, .slice A7 s.shores.length c7, .slice A8 s.currents.length c8] 25)).alloc (.cells #[.int .i64 v.speed, .int .i64 v.dive, .int .i64 v.use.f0, .int .i64 v.use.f1, .int .i64 v.drift.f0, .int .i64 v.drift.f1, .int .i64 v.reserve] 29)) (.cells #[.int .i64 x.f0.f0, .int .i64 x.f0.f1, .int .i64 x.f1.f0, .int .i64 x.f1.f1] 31); first | exact h_ | (simp only [World.size_alloc] at h_; exact h_))
  have mB : Below w.heap.size w (((w.alloc (.cells #[.int .i64 s.nx, .int .i64 s.ny, .int .i64 s.cell, .int .i64 s.slot, .int .i64 s.slots, .int .i64 s.layers, .int .i64 s.most, .slice A7 s.shores.length c7, .slice A8 s.currents.length c8] 25)).alloc (.cells #[.int .i64 v.speed, .int .i64 v.dive, .int .i64 v.use.f0, .int .i64 v.use.f1, .int .i64 v.drift.f0, .int .i64 v.drift.f1, .int .i64 v.reserve] 29)).alloc (.cells #[.int .i64 x.f0.f0, .int .i64 x.f0.f1, .int .i64 x.f1.f0, .int .i64 x.f1.f1] 31)) := (below_alloc (below_alloc (below_alloc (Below.refl w.heap.size w) _) _) _)
  have hsz_ : w.heap.size ≤ w.heap.size := Nat.le_refl _
  generalize hW_ : (((w.alloc (.cells #[.int .i64 s.nx, .int .i64 s.ny, .int .i64 s.cell, .int .i64 s.slot, .int .i64 s.slots, .int .i64 s.layers, .int .i64 s.most, .slice A7 s.shores.length c7, .slice A8 s.currents.length c8] 25)).alloc (.cells #[.int .i64 v.speed, .int .i64 v.dive, .int .i64 v.use.f0, .int .i64 v.use.f1, .int .i64 v.drift.f0, .int .i64 v.drift.f1, .int .i64 v.reserve] 29)).alloc (.cells #[.int .i64 x.f0.f0, .int .i64 x.f0.f1, .int .i64 x.f1.f0, .int .i64 x.f1.f1] 31)) = W1 at m4 m5 m6 mB ⊢
  clear hW_
  generalize hg4 : w.heap.size = g4 at m4 m5 m6 ⊢
  have hG4 : w.heap.size ≤ g4 := by omega
  generalize hg5 : g4 + 1 = g5 at m5 m6 ⊢
  have hn_4_5 : g4 ≠ g5 := by omega
  have hn_5_4 : g5 ≠ g4 := hn_4_5.symm
  have hG5 : w.heap.size ≤ g5 := by omega
  generalize hg6 : g5 + 1 = g6 at m6 ⊢
  have hn_4_6 : g4 ≠ g6 := by omega
  have hn_5_6 : g5 ≠ g6 := by omega
  have hn_6_4 : g6 ≠ g4 := hn_4_6.symm
  have hn_6_5 : g6 ≠ g5 := hn_5_6.symm
  have hG6 : w.heap.size ≤ g6 := by omega
  clear hsz_
  try clear hg6
  try clear hg5
  try clear hg4
  have hs_W1 : w.heap.size ≤ W1.heap.size := mB.size
  have hcon := newTrip_any s v A7 A8 c7 c8 W1 h7 (Kd.C_below hC7 mB) h8 (Kd.C_below hC8 mB)
  (with_reducible refine hcon.mono ?_)
  clear hcon
  rintro e W2 ⟨ptr, rfl, hb, ⟨h0, g, rfl, hg, hT⟩ | ⟨h0, rfl⟩⟩
  case inr =>
    have HZ := Lib.hid (HE.out.trans (if_pos h0))
    replace mB := below_step mB hb
    clear hb HE
    have h00 := Lib.hid h0
    generalize hE_ : tripE s v = E0 at *
    have hE := Lib.hid hE_
    clear hE_
    have hd : (E0 == 0) = false := beq_eq_false_iff_ne.2 h0
    have hd2 : (E0 != 0) = true := by rw [bne, hd]; rfl
    clear h0
    go_wp2
    go_ret2
    exact ⟨none, by rw [HZ.out]; rfl, mB, .inr ⟨by rw [hE.out]; exact h00.out, rfl⟩⟩
  case inl =>
    have HZ := Lib.hid (HE.out.trans (if_neg (fun h => h h0)))
    clear HE
    have hg0 : w.heap.size ≤ g := Nat.le_trans (m := W1.heap.size) (by assumption) hg
    replace m4 := blk_below m4 hb
    replace m5 := blk_below m5 hb
    replace m6 := blk_below m6 hb
    replace mB := below_step mB hb
    clear hb
    have H0 := Lib.hid h0
    rw [h0]
    clear h0
    have hs_W2 : w.heap.size ≤ W2.heap.size := mB.size
    have c6_0 := (blk_cell m6 0).trans rfl
    have c6_1 := (blk_cell m6 1).trans rfl
    have c6_2 := (blk_cell m6 2).trans rfl
    have c6_3 := (blk_cell m6 3).trans rfl
    go_wp2_with fail
    clear c6_0
    clear c6_1
    clear c6_2
    clear c6_3
    have hcon := place_any x t W2
    (with_reducible refine hcon.mono ?_)
    clear hcon
    rintro e W3 ⟨rfl, hb⟩
    replace hT := hT.below hb
    replace m4 := blk_below m4 hb
    replace m5 := blk_below m5 hb
    replace m6 := blk_below m6 hb
    replace mB := below_step mB hb
    clear hb
    go_wp2
    go_ret2
    exact ⟨_, by rw [HZ.out]; rfl, mB, .inl ⟨H0.out, g, rfl, hg0, hT⟩⟩
end Go.Proofs.Ytmhaiihjfgfaoaa.Gl
end
section
/- Dive and At, as the program answers. -/
namespace Go.Proofs.Ytmhaiihjfgfaoaa.Gl
open Go.RowKit Go.Shelf Go.Proofs.YtmhaiihjfgfaoaaW.PrintWords Go.Proofs.YtmhaiihjfgfaoaaW.PrintLast Go.Proofs.YtmhaiihjfgfaoaaW.PrintMore Go.Proofs.Ytmhaiihjfgfaoaa.Pr Go.Proofs.YtmhaiihjfgfaoaaW.Round
set_option linter.unusedVariables false
set_option linter.unusedSimpArgs false
attribute [local go_sem] max2_int min2_int max_two min_two max_four
theorem ite_ne_zero {a b : Int} (h : (if a ≠ 0 then a else b) = 0) : a = 0 ∧ b = 0 := by
  by_cases h0 : a = 0
  · rw [if_neg (fun h => h h0)] at h
    exact ⟨h0, h⟩
  · rw [if_pos h0] at h
    exact absurd h h0
/-- A row of one course. -/
theorem C_one33 {W : World} {b : Nat} {x y : Int} (h : W.heap[b]? = some (.cells #[.int .i64 x, .int .i64 y] 33 (0, 0))) : Kd.C k33 W (some ⟨b, 0, none⟩) 1 [⟨x, y⟩] := by
  refine ⟨rfl, by decide, fun _ => ⟨⟨b, 0, none⟩, rfl, fun j p hj => ?_⟩⟩
  match j, hj with
  | 0, hj =>
    obtain rfl : (⟨x, y⟩ : S33) = p := by simpa using hj
    refine ⟨_, rfl, k33_mk W ⟨x, y⟩, fun i u hu => ?_⟩
    match i, hu with
    | 0, hu => exact ((blk_cell h 0).trans (by simpa using hu))
    | 1, hu => exact ((blk_cell h 1).trans (by simpa using hu))
theorem crs_one {hd layer layers : Int} (hl : 1 ≤ layers) (h : crsE [⟨hd, layer⟩] layers = 0) : (0 ≤ hd ∧ hd ≤ 8) ∧ 0 ≤ layer ∧ layer < layers := by
  unfold crsE at h
  cases hb : ([⟨hd, layer⟩] : List S33).all (crsB layers) with
  | false => rw [hb] at h; simp at h
  | true =>
    simp only [List.all_cons, List.all_nil, Bool.and_true, crsB, Bool.and_eq_true, Bool.or_eq_true, decide_eq_true_eq, btwB_iff] at hb
    omega
theorem place_ok {x : S31} {t : Int} (h : placeE x t = 0) : BoxOK x ∧ 0 ≤ t ∧ t ≤ 1073741824 := by
  unfold placeE at h
  obtain ⟨h1, h2⟩ := ite_ne_zero h
  refine ⟨boxB_ok h1, ?_⟩
  cases hb : btwB t 0 1073741824 with
  | false => rw [hb] at h2; simp at h2
  | true => exact btwB_iff.1 hb
def DiveE (s : Sea) (v : Veh) (x : S31) (t hd layer : Int) : Int := if beginE s v x t ≠ 0 then beginE s v x t else if crsE [⟨hd, layer⟩] s.layers ≠ 0 then crsE [⟨hd, layer⟩] s.layers else diveE s v x t
def DiveV (s : Sea) (v : Veh) (x : S31) (t hd layer : Int) : S31 := if DiveE s v x t hd layer = 0 then diveV s v x t hd layer else z31
set_option maxRecDepth 100000 in
set_option maxHeartbeats 8000000 in
theorem Dive_any (s : Sea) (v : Veh) (x : S31) (t hd layer : Int) (A7 A8 : Option Addr) (c7 c8 : Nat) (w : World) (h7 : s.shores.length ≤ c7) (hC7 : Kd.C Kd.bool w A7 s.shores.length s.shores) (h8 : s.currents.length ≤ c8) (hC8 : Kd.C k40 w A8 s.currents.length s.currents) :
    Calls Try.prog 20 #[.agg #[.int .i64 s.nx, .int .i64 s.ny, .int .i64 s.cell, .int .i64 s.slot, .int .i64 s.slots, .int .i64 s.layers, .int .i64 s.most, .slice A7 s.shores.length c7, .slice A8 s.currents.length c8], .agg #[.int .i64 v.speed, .int .i64 v.dive, .int .i64 v.use.f0, .int .i64 v.use.f1, .int .i64 v.drift.f0, .int .i64 v.drift.f1, .int .i64 v.reserve], .agg #[.int .i64 x.f0.f0, .int .i64 x.f0.f1, .int .i64 x.f1.f0, .int .i64 x.f1.f1], .int .i64 t, .agg #[.int .i64 hd, .int .i64 layer]] w (RetB (.tuple #[.agg #[.int .i64 (DiveV s v x t hd layer).f0.f0, .int .i64 (DiveV s v x t hd layer).f0.f1, .int .i64 (DiveV s v x t hd layer).f1.f0, .int .i64 (DiveV s v x t hd layer).f1.f1], .int .i64 (DiveE s v x t hd layer)]) w) := by
  have hu25 := Try.underlying25
  have hu29 := Try.underlying29
  have hu31 := Try.underlying31
  have hu33 := Try.underlying33
  have hu27 := Try.underlying27
  have HE : Hid (DiveE s v x t hd layer = if beginE s v x t ≠ 0 then beginE s v x t else if crsE [⟨hd, layer⟩] s.layers ≠ 0 then crsE [⟨hd, layer⟩] s.layers else diveE s v x t) := Lib.hid rfl
  have HV : Hid (DiveV s v x t hd layer = if DiveE s v x t hd layer = 0 then diveV s v x t hd layer else z31) := Lib.hid rfl
  go_enter Try.func20, Try.ntmps20
  go_wp2_with fail
  have m5 : Blk (((((w.alloc (.cells #[.int .i64 s.nx, .int .i64 s.ny, .int .i64 s.cell, .int .i64 s.slot, .int .i64 s.slots, .int .i64 s.layers, .int .i64 s.most, .slice A7 s.shores.length c7, .slice A8 s.currents.length c8] 25)).alloc (.cells #[.int .i64 v.speed, .int .i64 v.dive, .int .i64 v.use.f0, .int .i64 v.use.f1, .int .i64 v.drift.f0, .int .i64 v.drift.f1, .int .i64 v.reserve] 29)).alloc (.cells #[.int .i64 x.f0.f0, .int .i64 x.f0.f1, .int .i64 x.f1.f0, .int .i64 x.f1.f1] 31)).alloc (.cells #[.int .i64 hd, .int .i64 layer] 33)).alloc (.cells #[.int .i64 0, .int .i64 0, .int .i64 0, .int .i64 0] 31)) (w.heap.size) #[.int .i64 s.nx, .int .i64 s.ny, .int .i64 s.cell, .int .i64 s.slot, .int .i64 s.slots, .int .i64 s.layers, .int .i64 s.most, .slice A7 s.shores.length c7, .slice A8 s.currents.length c8] 25 := (blk_alloc (blk_alloc (blk_alloc (blk_alloc (by have h_ := blk_new w (.cells #[.int .i64 s.nx, .int .i64 s.ny, .int .i64 s.cell, .int .i64 s.slot, .int .i64 s.slots, .int .i64 s.layers, .int .i64 s.most, .slice A7 s.shores.length c7, .slice A8 s.currents.length c8] 25); first | exact h_ | (simp only [World.size_alloc] at h_; exact h_)) _) _) _) _)
  have m6 : Blk (((((w.alloc (.cells #[.int .i64 s.nx, .int .i64 s.ny, .int .i64 s.cell, .int .i64 s.slot, .int .i64 s.slots, .int .i64 s.layers, .int .i64 s.most, .slice A7 s.shores.length c7, .slice A8 s.currents.length c8] 25)).alloc (.cells #[.int .i64 v.speed, .int .i64 v.dive, .int .i64 v.use.f0, .int .i64 v.use.f1, .int .i64 v.drift.f0, .int .i64 v.drift.f1, .int .i64 v.reserve] 29)).alloc (.cells #[.int .i64 x.f0.f0, .int .i64 x.f0.f1, .int .i64 x.f1.f0, .int .i64 x.f1.f1] 31)).alloc (.cells #[.int .i64 hd, .int .i64 layer] 33)).alloc (.cells #[.int .i64 0, .int .i64 0, .int .i64 0, .int .i64 0] 31)) (w.heap.size + 1) #[.int .i64 v.speed, .int .i64 v.dive, .int .i64 v.use.f0, .int .i64 v.use.f1, .int .i64 v.drift.f0, .int .i64 v.drift.f1, .int .i64 v.reserve] 29 := (blk_alloc (blk_alloc (blk_alloc (by have h_ := blk_new (w.alloc (.cells #[.int .i64 s.nx, .int .i64 s.ny, .int .i64 s.cell, .int .i64 s.slot, .int .i64 s.slots, .int .i64 s.layers, .int .i64 s.most, .slice A7 s.shores.length c7, .slice A8 s.currents.length c8] 25)) (.cells #[.int .i64 v.speed, .int .i64 v.dive, .int .i64 v.use.f0, .int .i64 v.use.f1, .int .i64 v.drift.f0, .int .i64 v.drift.f1, .int .i64 v.reserve] 29); first | exact h_ | (simp only [World.size_alloc] at h_; exact h_)) _) _) _)
  have m7 : Blk (((((w.alloc (.cells #[.int .i64 s.nx, .int .i64 s.ny, .int .i64 s.cell, .int .i64 s.slot, .int .i64 s.slots, .int .i64 s.layers, .int .i64 s.most, .slice A7 s.shores.length c7, .slice A8 s.currents.length c8] 25)).alloc (.cells #[.int .i64 v.speed, .int .i64 v.dive, .int .i64 v.use.f0, .int .i64 v.use.f1, .int .i64 v.drift.f0, .int .i64 v.drift.f1, .int .i64 v.reserve] 29)).alloc (.cells #[.int .i64 x.f0.f0, .int .i64 x.f0.f1, .int .i64 x.f1.f0, .int .i64 x.f1.f1] 31)).alloc (.cells #[.int .i64 hd, .int .i64 layer] 33)).alloc (.cells #[.int .i64 0, .int .i64 0, .int .i64 0, .int .i64 0] 31)) (w.heap.size + 1 + 1) #[.int .i64 x.f0.f0, .int .i64 x.f0.f1, .int .i64 x.f1.f0, .int .i64 x.f1.f1] 31 := (blk_alloc (blk_alloc (by have h_ := blk_new ((w.alloc (.cells #[.int .i64 s.nx, .int .i64 s.ny, .int .i64 s.cell, .int .i64 s.slot, .int .i64 s.slots, .int .i64 s.layers, .int .i64 s.most, .slice A7 s.shores.length c7, .slice A8 s.currents.length c8] 25)).alloc (.cells #[.int .i64 v.speed, .int .i64 v.dive, .int .i64 v.use.f0, .int .i64 v.use.f1, .int .i64 v.drift.f0, .int .i64 v.drift.f1, .int .i64 v.reserve] 29)) (.cells #[.int .i64 x.f0.f0, .int .i64 x.f0.f1, .int .i64 x.f1.f0, .int .i64 x.f1.f1] 31); first | exact h_ | (simp only [World.size_alloc] at h_; exact h_)) _) _)
  have m9 : Blk (((((w.alloc (.cells #[.int .i64 s.nx, .int .i64 s.ny, .int .i64 s.cell, .int .i64 s.slot, .int .i64 s.slots, .int .i64 s.layers, .int .i64 s.most, .slice A7 s.shores.length c7, .slice A8 s.currents.length c8] 25)).alloc (.cells #[.int .i64 v.speed, .int .i64 v.dive, .int .i64 v.use.f0, .int .i64 v.use.f1, .int .i64 v.drift.f0, .int .i64 v.drift.f1, .int .i64 v.reserve] 29)).alloc (.cells #[.int .i64 x.f0.f0, .int .i64 x.f0.f1, .int .i64 x.f1.f0, .int .i64 x.f1.f1] 31)).alloc (.cells #[.int .i64 hd, .int .i64 layer] 33)).alloc (.cells #[.int .i64 0, .int .i64 0, .int .i64 0, .int .i64 0] 31)) (w.heap.size + 1 + 1 + 1) #[.int .i64 hd, .int .i64 layer] 33 := (blk_alloc (by have h_ := blk_new (((w.alloc (.cells #[.int .i64 s.nx, .int .i64 s.ny, .int .i64 s.cell, .int .i64 s.slot, .int .i64 s.slots, .int .i64 s.layers, .int .i64 s.most, .slice A7 s.shores.length c7, .slice A8 s.currents.length c8] 25)).alloc (.cells #[.int .i64 v.speed, .int .i64 v.dive, .int .i64 v.use.f0, .int .i64 v.use.f1, .int .i64 v.drift.f0, .int .i64 v.drift.f1, .int .i64 v.reserve] 29)).alloc (.cells #[.int .i64 x.f0.f0, .int .i64 x.f0.f1, .int .i64 x.f1.f0, .int .i64 x.f1.f1] 31)) (.cells #[.int .i64 hd, .int .i64 layer] 33); first | exact h_ | (simp only [World.size_alloc] at h_; exact h_)) _)
  have m10 : Blk (((((w.alloc (.cells #[.int .i64 s.nx, .int .i64 s.ny, .int .i64 s.cell, .int .i64 s.slot, .int .i64 s.slots, .int .i64 s.layers, .int .i64 s.most, .slice A7 s.shores.length c7, .slice A8 s.currents.length c8] 25)).alloc (.cells #[.int .i64 v.speed, .int .i64 v.dive, .int .i64 v.use.f0, .int .i64 v.use.f1, .int .i64 v.drift.f0, .int .i64 v.drift.f1, .int .i64 v.reserve] 29)).alloc (.cells #[.int .i64 x.f0.f0, .int .i64 x.f0.f1, .int .i64 x.f1.f0, .int .i64 x.f1.f1] 31)).alloc (.cells #[.int .i64 hd, .int .i64 layer] 33)).alloc (.cells #[.int .i64 0, .int .i64 0, .int .i64 0, .int .i64 0] 31)) (w.heap.size + 1 + 1 + 1 + 1) #[.int .i64 0, .int .i64 0, .int .i64 0, .int .i64 0] 31 := (by have h_ := blk_new ((((w.alloc (.cells #[.int .i64 s.nx, .int .i64 s.ny, .int .i64 s.cell, .int .i64 s.slot, .int .i64 s.slots, .int .i64 s.layers, .int .i64 s.most, .slice A7 s.shores.length c7, .slice A8 s.currents.length c8] 25)).alloc (.cells #[.int .i64 v.speed, .int .i64 v.dive, .int .i64 v.use.f0, .int .i64 v.use.f1, .int .i64 v.drift.f0, .int .i64 v.drift.f1, .int .i64 v.reserve] 29)).alloc (.cells #[.int .i64 x.f0.f0, .int .i64 x.f0.f1, .int .i64 x.f1.f0, .int .i64 x.f1.f1] 31)).alloc (.cells #[.int .i64 hd, .int .i64 layer] 33)) (.cells #[.int .i64 0, .int .i64 0, .int .i64 0, .int .i64 0] 31); first | exact h_ | (simp only [World.size_alloc] at h_; exact h_))
  have mB : Below w.heap.size w (((((w.alloc (.cells #[.int .i64 s.nx, .int .i64 s.ny, .int .i64 s.cell, .int .i64 s.slot, .int .i64 s.slots, .int .i64 s.layers, .int .i64 s.most, .slice A7 s.shores.length c7, .slice A8 s.currents.length c8] 25)).alloc (.cells #[.int .i64 v.speed, .int .i64 v.dive, .int .i64 v.use.f0, .int .i64 v.use.f1, .int .i64 v.drift.f0, .int .i64 v.drift.f1, .int .i64 v.reserve] 29)).alloc (.cells #[.int .i64 x.f0.f0, .int .i64 x.f0.f1, .int .i64 x.f1.f0, .int .i64 x.f1.f1] 31)).alloc (.cells #[.int .i64 hd, .int .i64 layer] 33)).alloc (.cells #[.int .i64 0, .int .i64 0, .int .i64 0, .int .i64 0] 31)) := (below_alloc (below_alloc (below_alloc (below_alloc (below_alloc (Below.refl w.heap.size w) _) _) _) _) _)
  have hsz_ : w.heap.size ≤ w.heap.size := Nat.le_refl _
  generalize hW_ : (((((w.alloc (.cells #[.int .i64 s.nx, .int .i64 s.ny, .int .i64 s.cell, .int .i64 s.slot, .int .i64 s.slots, .int .i64 s.layers, .int .i64 s.most, .slice A7 s.shores.length c7, .slice A8 s.currents.length c8] 25)).alloc (.cells #[.int .i64 v.speed, .int .i64 v.dive, .int .i64 v.use.f0, .int .i64 v.use.f1, .int .i64 v.drift.f0, .int .i64 v.drift.f1, .int .i64 v.reserve] 29)).alloc (.cells #[.int .i64 x.f0.f0, .int .i64 x.f0.f1, .int .i64 x.f1.f0, .int .i64 x.f1.f1] 31)).alloc (.cells #[.int .i64 hd, .int .i64 layer] 33)).alloc (.cells #[.int .i64 0, .int .i64 0, .int .i64 0, .int .i64 0] 31)) = W1 at m5 m6 m7 m9 m10 mB ⊢
  clear hW_
  generalize hg5 : w.heap.size = g5 at m5 m6 m7 m9 m10 ⊢
  have hG5 : w.heap.size ≤ g5 := by omega
  generalize hg6 : g5 + 1 = g6 at m6 m7 m9 m10 ⊢
  have hn_5_6 : g5 ≠ g6 := by omega
  have hn_6_5 : g6 ≠ g5 := hn_5_6.symm
  have hG6 : w.heap.size ≤ g6 := by omega
  generalize hg7 : g6 + 1 = g7 at m7 m9 m10 ⊢
  have hn_5_7 : g5 ≠ g7 := by omega
  have hn_6_7 : g6 ≠ g7 := by omega
  have hn_7_5 : g7 ≠ g5 := hn_5_7.symm
  have hn_7_6 : g7 ≠ g6 := hn_6_7.symm
  have hG7 : w.heap.size ≤ g7 := by omega
  generalize hg9 : g7 + 1 = g9 at m9 m10 ⊢
  have hn_5_9 : g5 ≠ g9 := by omega
  have hn_6_9 : g6 ≠ g9 := by omega
  have hn_7_9 : g7 ≠ g9 := by omega
  have hn_9_5 : g9 ≠ g5 := hn_5_9.symm
  have hn_9_6 : g9 ≠ g6 := hn_6_9.symm
  have hn_9_7 : g9 ≠ g7 := hn_7_9.symm
  have hG9 : w.heap.size ≤ g9 := by omega
  generalize hg10 : g9 + 1 = g10 at m10 ⊢
  have hn_5_10 : g5 ≠ g10 := by omega
  have hn_6_10 : g6 ≠ g10 := by omega
  have hn_7_10 : g7 ≠ g10 := by omega
  have hn_9_10 : g9 ≠ g10 := by omega
  have hn_10_5 : g10 ≠ g5 := hn_5_10.symm
  have hn_10_6 : g10 ≠ g6 := hn_6_10.symm
  have hn_10_7 : g10 ≠ g7 := hn_7_10.symm
  have hn_10_9 : g10 ≠ g9 := hn_9_10.symm
  have hG10 : w.heap.size ≤ g10 := by omega
  clear hsz_
  try clear hg10
  try clear hg9
  try clear hg7
  try clear hg6
  try clear hg5
  have hs_W1 : w.heap.size ≤ W1.heap.size := mB.size
  have hbg : beginE s v x t = if tripE s v ≠ 0 then tripE s v else placeE x t := rfl
  have HBG := Lib.hid hbg
  clear hbg
  have hcon := begin_any s v x t A7 A8 c7 c8 W1 h7 (Kd.C_below hC7 mB) h8 (Kd.C_below hC8 mB)
  (with_reducible refine hcon.mono ?_)
  clear hcon
  rintro e W2 ⟨ptr, rfl, hb, hpt⟩
  replace m5 := blk_below m5 hb
  replace m6 := blk_below m6 hb
  replace m7 := blk_below m7 hb
  replace m9 := blk_below m9 hb
  replace m10 := blk_below m10 hb
  replace mB := below_step mB hb
  clear hb
  have hs_W2 : w.heap.size ≤ W2.heap.size := mB.size
  generalize hE_ : beginE s v x t = E0 at *
  have HE0 := Lib.hid hE_
  clear hE_
  by_cases h0 : E0 = 0
  case neg =>
    have HZ : Hid (DiveE s v x t hd layer = E0) := Lib.hid (HE.out.trans (if_pos h0))
    have HV2 : Hid (DiveV s v x t hd layer = z31) := Lib.hid (HV.out.trans (if_neg (by rw [HZ.out]; exact h0)))
    clear HV
    have hd1 : (E0 == 0) = false := beq_eq_false_iff_ne.2 h0
    have hd2 : (E0 != 0) = true := by rw [bne, hd1]; rfl
    clear h0 hpt HE
    have c10_0 := (blk_cell m10 0).trans rfl
    have c10_1 := (blk_cell m10 1).trans rfl
    have c10_2 := (blk_cell m10 2).trans rfl
    have c10_3 := (blk_cell m10 3).trans rfl
    have f10_0 := blk_frozen m10 0
    have f10_1 := blk_frozen m10 1
    have f10_2 := blk_frozen m10 2
    have f10_3 := blk_frozen m10 3
    go_wp2
    exact bodyPost_ret (results_ct rfl _ _ g10 31 #[.int .i64 0, .int .i64 0, .int .i64 0, .int .i64 0] (0, 0) _ rfl (blk_put (blk_put (blk_put (blk_put m10 0 (.int .i64 0) rfl) 1 (.int .i64 0) rfl) 2 (.int .i64 0) rfl) 3 (.int .i64 0) rfl) Try.underlying31 rfl (by kernel_rfl)) rfl ⟨by rw [HV2.out, HZ.out]; rfl, (Below.setCell (p := ⟨g10, 3, none⟩) (Below.setCell (p := ⟨g10, 2, none⟩) (Below.setCell (p := ⟨g10, 1, none⟩) (Below.setCell (p := ⟨g10, 0, none⟩) mB hG10 _) hG10 _) hG10 _) hG10 _)⟩
  case pos =>
    have HE2 := Lib.hid (HE.out.trans (if_neg (fun h => h h0)))
    clear HE
    have hb0 := HBG.out.symm.trans h0
    obtain ⟨ht0, hp0⟩ := ite_ne_zero hb0
    obtain ⟨hbx, htt0, htt1⟩ := place_ok hp0
    obtain ⟨hSV, hVN⟩ := tripE_ok ht0
    rcases hpt with ⟨_, g, rfl, hg, hT⟩ | ⟨hbad, _⟩
    case inr => exact absurd ht0 hbad
    case inl =>
      subst h0
      clear hb0 ht0 hp0 HBG
      have c9_0 := (blk_cell m9 0).trans rfl
      have c9_1 := (blk_cell m9 1).trans rfl
      have c5_0 : ∀ o_, (W2.alloc o_).cell? ⟨g5, 0, none⟩ = some (.int .i64 s.nx) := fun o_ => (blk_cell (blk_alloc m5 o_) 0).trans rfl
      have c5_1 : ∀ o_, (W2.alloc o_).cell? ⟨g5, 1, none⟩ = some (.int .i64 s.ny) := fun o_ => (blk_cell (blk_alloc m5 o_) 1).trans rfl
      have c5_2 : ∀ o_, (W2.alloc o_).cell? ⟨g5, 2, none⟩ = some (.int .i64 s.cell) := fun o_ => (blk_cell (blk_alloc m5 o_) 2).trans rfl
      have c5_3 : ∀ o_, (W2.alloc o_).cell? ⟨g5, 3, none⟩ = some (.int .i64 s.slot) := fun o_ => (blk_cell (blk_alloc m5 o_) 3).trans rfl
      have c5_4 : ∀ o_, (W2.alloc o_).cell? ⟨g5, 4, none⟩ = some (.int .i64 s.slots) := fun o_ => (blk_cell (blk_alloc m5 o_) 4).trans rfl
      have c5_5 : ∀ o_, (W2.alloc o_).cell? ⟨g5, 5, none⟩ = some (.int .i64 s.layers) := fun o_ => (blk_cell (blk_alloc m5 o_) 5).trans rfl
      have c5_6 : ∀ o_, (W2.alloc o_).cell? ⟨g5, 6, none⟩ = some (.int .i64 s.most) := fun o_ => (blk_cell (blk_alloc m5 o_) 6).trans rfl
      have c5_7 : ∀ o_, (W2.alloc o_).cell? ⟨g5, 7, none⟩ = some (.slice A7 s.shores.length c7) := fun o_ => (blk_cell (blk_alloc m5 o_) 7).trans rfl
      have c5_8 : ∀ o_, (W2.alloc o_).cell? ⟨g5, 8, none⟩ = some (.slice A8 s.currents.length c8) := fun o_ => (blk_cell (blk_alloc m5 o_) 8).trans rfl
      go_wp2_with fail
      clear c5_0
      clear c5_1
      clear c5_2
      clear c5_3
      clear c5_4
      clear c5_5
      clear c5_6
      clear c5_7
      clear c5_8
      clear c9_0
      clear c9_1
      replace hT := hT.below (below_alloc (Below.refl _ W2) (.cells #[.int .i64 hd, .int .i64 layer] 33))
      have hl_5 := blk_lt m5
      have hl_6 := blk_lt m6
      have hl_7 := blk_lt m7
      have hl_9 := blk_lt m9
      have hl_10 := blk_lt m10
      have mc : Blk (W2.alloc (.cells #[.int .i64 hd, .int .i64 layer] 33)) (W2.heap.size) #[.int .i64 hd, .int .i64 layer] 33 := (by have h_ := blk_new W2 (.cells #[.int .i64 hd, .int .i64 layer] 33); first | exact h_ | (simp only [World.size_alloc] at h_; exact h_))
      replace m5 : Blk (W2.alloc (.cells #[.int .i64 hd, .int .i64 layer] 33)) g5 #[.int .i64 s.nx, .int .i64 s.ny, .int .i64 s.cell, .int .i64 s.slot, .int .i64 s.slots, .int .i64 s.layers, .int .i64 s.most, .slice A7 s.shores.length c7, .slice A8 s.currents.length c8] 25 := (blk_alloc m5 _)
      replace m6 : Blk (W2.alloc (.cells #[.int .i64 hd, .int .i64 layer] 33)) g6 #[.int .i64 v.speed, .int .i64 v.dive, .int .i64 v.use.f0, .int .i64 v.use.f1, .int .i64 v.drift.f0, .int .i64 v.drift.f1, .int .i64 v.reserve] 29 := (blk_alloc m6 _)
      replace m7 : Blk (W2.alloc (.cells #[.int .i64 hd, .int .i64 layer] 33)) g7 #[.int .i64 x.f0.f0, .int .i64 x.f0.f1, .int .i64 x.f1.f0, .int .i64 x.f1.f1] 31 := (blk_alloc m7 _)
      replace m9 : Blk (W2.alloc (.cells #[.int .i64 hd, .int .i64 layer] 33)) g9 #[.int .i64 hd, .int .i64 layer] 33 := (blk_alloc m9 _)
      replace m10 : Blk (W2.alloc (.cells #[.int .i64 hd, .int .i64 layer] 33)) g10 #[.int .i64 0, .int .i64 0, .int .i64 0, .int .i64 0] 31 := (blk_alloc m10 _)
      replace mB : Below w.heap.size w (W2.alloc (.cells #[.int .i64 hd, .int .i64 layer] 33)) := (below_alloc mB _)
      have hsz_ : w.heap.size ≤ W2.heap.size := hs_W2
      generalize hW_ : (W2.alloc (.cells #[.int .i64 hd, .int .i64 layer] 33)) = W3 at m5 m6 m7 m9 m10 mc mB hT ⊢
      clear hW_
      generalize hgc : W2.heap.size = gc at mc ⊢
      have hn_5_c : g5 ≠ gc := by omega
      have hn_6_c : g6 ≠ gc := by omega
      have hn_7_c : g7 ≠ gc := by omega
      have hn_9_c : g9 ≠ gc := by omega
      have hn_10_c : g10 ≠ gc := by omega
      have hn_c_5 : gc ≠ g5 := hn_5_c.symm
      have hn_c_6 : gc ≠ g6 := hn_6_c.symm
      have hn_c_7 : gc ≠ g7 := hn_7_c.symm
      have hn_c_9 : gc ≠ g9 := hn_9_c.symm
      have hn_c_10 : gc ≠ g10 := hn_10_c.symm
      have hGc : w.heap.size ≤ gc := by omega
      clear hsz_ hl_5 hl_6 hl_7 hl_9 hl_10
      try clear hgc
      have hs_W3 : w.heap.size ≤ W3.heap.size := mB.size
      have hcon := crs_any (some ⟨gc, 0, none⟩) 1 [⟨hd, layer⟩] s.layers W3 (C_one33 mc) (Nat.le_refl 1)
      dsimp only [List.length_cons, List.length_nil, Nat.zero_add] at hcon
      (with_reducible refine hcon.mono ?_)
      clear hcon
      rintro e W4 ⟨rfl, hb⟩
      replace hT := hT.below hb
      replace m5 := blk_below m5 hb
      replace m6 := blk_below m6 hb
      replace m7 := blk_below m7 hb
      replace m9 := blk_below m9 hb
      replace m10 := blk_below m10 hb
      replace mc := blk_below mc hb
      replace mB := below_step mB hb
      clear hb
      have hs_W4 : w.heap.size ≤ W4.heap.size := mB.size
      have hc1 := crs_one (hd := hd) (layer := layer) hSV.n.layers.1
      generalize crsE [⟨hd, layer⟩] s.layers = E1 at *
      by_cases h1 : E1 = 0
      case neg =>
        have HZ : Hid (DiveE s v x t hd layer = E1) := Lib.hid (HE2.out.trans (if_pos h1))
        have HV2 : Hid (DiveV s v x t hd layer = z31) := Lib.hid (HV.out.trans (if_neg (by rw [HZ.out]; exact h1)))
        clear HV
        have hd1 : (E1 == 0) = false := beq_eq_false_iff_ne.2 h1
        have hd2 : (E1 != 0) = true := by rw [bne, hd1]; rfl
        clear h1 hc1 HE2
        have c10_0 := (blk_cell m10 0).trans rfl
        have c10_1 := (blk_cell m10 1).trans rfl
        have c10_2 := (blk_cell m10 2).trans rfl
        have c10_3 := (blk_cell m10 3).trans rfl
        have f10_0 := blk_frozen m10 0
        have f10_1 := blk_frozen m10 1
        have f10_2 := blk_frozen m10 2
        have f10_3 := blk_frozen m10 3
        go_wp2
        exact bodyPost_ret (results_ct rfl _ _ g10 31 #[.int .i64 0, .int .i64 0, .int .i64 0, .int .i64 0] (0, 0) _ rfl (blk_put (blk_put (blk_put (blk_put m10 0 (.int .i64 0) rfl) 1 (.int .i64 0) rfl) 2 (.int .i64 0) rfl) 3 (.int .i64 0) rfl) Try.underlying31 rfl (by kernel_rfl)) rfl ⟨by rw [HV2.out, HZ.out]; rfl, (Below.setCell (p := ⟨g10, 3, none⟩) (Below.setCell (p := ⟨g10, 2, none⟩) (Below.setCell (p := ⟨g10, 1, none⟩) (Below.setCell (p := ⟨g10, 0, none⟩) mB hG10 _) hG10 _) hG10 _) hG10 _)⟩
      case pos =>
        obtain ⟨⟨hh0, hh1⟩, hl0, hl1⟩ := hc1 h1
        have HE3 := Lib.hid (HE2.out.trans (if_neg (fun h => h h1)))
        clear HE2 hc1
        subst h1
        have c7_0 := (blk_cell m7 0).trans rfl
        have c7_1 := (blk_cell m7 1).trans rfl
        have c7_2 := (blk_cell m7 2).trans rfl
        have c7_3 := (blk_cell m7 3).trans rfl
        have c9_0 := (blk_cell m9 0).trans rfl
        have c9_1 := (blk_cell m9 1).trans rfl
        go_wp2_with fail
        clear c7_0
        clear c7_1
        clear c7_2
        clear c7_3
        clear c9_0
        clear c9_1
        have hcon := dive_any g s v x t hd layer W4 hT hSV hVN hbx htt0 (by omega) hh0 hh1 hl0 hl1
        (with_reducible refine hcon.mono ?_)
        clear hcon
        rintro e W5 ⟨rfl, hb⟩
        replace m5 := blk_below m5 hb
        replace m6 := blk_below m6 hb
        replace m7 := blk_below m7 hb
        replace m9 := blk_below m9 hb
        replace m10 := blk_below m10 hb
        replace mc := blk_below mc hb
        replace mB := below_step mB hb
        clear hb
        have hs_W5 : w.heap.size ≤ W5.heap.size := mB.size
        have HV2 : Hid (DiveV s v x t hd layer = diveV s v x t hd layer) := Lib.hid (by rw [HV.out, HE3.out]; by_cases hz : diveE s v x t = 0; exact if_pos hz; rw [if_neg hz]; unfold diveV; rw [if_neg hz])
        clear HV
        generalize diveV s v x t hd layer = Y at *
        have c10_0 := (blk_cell m10 0).trans rfl
        have c10_1 := (blk_cell m10 1).trans rfl
        have c10_2 := (blk_cell m10 2).trans rfl
        have c10_3 := (blk_cell m10 3).trans rfl
        have f10_0 := blk_frozen m10 0
        have f10_1 := blk_frozen m10 1
        have f10_2 := blk_frozen m10 2
        have f10_3 := blk_frozen m10 3
        go_wp2
        exact bodyPost_ret (results_ct rfl _ _ g10 31 #[.int .i64 Y.f0.f0, .int .i64 Y.f0.f1, .int .i64 Y.f1.f0, .int .i64 Y.f1.f1] (0, 0) _ rfl (blk_put (blk_put (blk_put (blk_put m10 0 (.int .i64 Y.f0.f0) rfl) 1 (.int .i64 Y.f0.f1) rfl) 2 (.int .i64 Y.f1.f0) rfl) 3 (.int .i64 Y.f1.f1) rfl) Try.underlying31 rfl (by kernel_rfl)) rfl ⟨by rw [HV2.out, HE3.out]; rfl, (Below.setCell (p := ⟨g10, 3, none⟩) (Below.setCell (p := ⟨g10, 2, none⟩) (Below.setCell (p := ⟨g10, 1, none⟩) (Below.setCell (p := ⟨g10, 0, none⟩) mB hG10 _) hG10 _) hG10 _) hG10 _)⟩
end Go.Proofs.Ytmhaiihjfgfaoaa.Gl
end
section
/- At, as the program answers. -/
namespace Go.Proofs.Ytmhaiihjfgfaoaa.Gl
open Go.RowKit Go.Shelf Go.Proofs.YtmhaiihjfgfaoaaW.PrintWords Go.Proofs.YtmhaiihjfgfaoaaW.PrintLast Go.Proofs.YtmhaiihjfgfaoaaW.PrintMore Go.Proofs.Ytmhaiihjfgfaoaa.Pr Go.Proofs.YtmhaiihjfgfaoaaW.Round
set_option linter.unusedVariables false
set_option linter.unusedSimpArgs false
attribute [local go_sem] max2_int min2_int max_two min_two max_four
end Go.Proofs.Ytmhaiihjfgfaoaa.Gl
end
section
/- The contracts of exported functions, as the printed texts ask for them. -/
namespace Go.Proofs.Ytmhaiihjfgfaoaa.Pr
open Go.RowKit Go.Proofs.YtmhaiihjfgfaoaaW.PrintWords Go.Proofs.YtmhaiihjfgfaoaaW.PrintLast Go.Proofs.YtmhaiihjfgfaoaaW.PrintMore Go.Proofs.Ytmhaiihjfgfaoaa.Gl
set_option linter.unusedVariables false
def glider_Dive.f (a0_0 : Int) (a0_1 : Int) (a0_2 : Int) (a0_3 : Int) (a0_4 : Int) (a0_5 : Int) (a0_6 : Int) (l0_7 : List Bool) (l0_8 : List (S40)) (a1_0 : Int) (a1_1 : Int) (a1_2 : Int) (a1_3 : Int) (a1_4 : Int) (a1_5 : Int) (a1_6 : Int) (a2_0 : Int) (a2_1 : Int) (a2_2 : Int) (a2_3 : Int) (a3 : Int) (a4_0 : Int) (a4_1 : Int) : Option (Int × Int × Int × Int × Int) := some ((DiveV ⟨a0_0, a0_1, a0_2, a0_3, a0_4, a0_5, a0_6, l0_7, l0_8⟩ ⟨a1_0, a1_1, ⟨a1_2, a1_3⟩, ⟨a1_4, a1_5⟩, a1_6⟩ ⟨⟨a2_0, a2_1⟩, ⟨a2_2, a2_3⟩⟩ a3 a4_0 a4_1).f0.f0, (DiveV ⟨a0_0, a0_1, a0_2, a0_3, a0_4, a0_5, a0_6, l0_7, l0_8⟩ ⟨a1_0, a1_1, ⟨a1_2, a1_3⟩, ⟨a1_4, a1_5⟩, a1_6⟩ ⟨⟨a2_0, a2_1⟩, ⟨a2_2, a2_3⟩⟩ a3 a4_0 a4_1).f0.f1, (DiveV ⟨a0_0, a0_1, a0_2, a0_3, a0_4, a0_5, a0_6, l0_7, l0_8⟩ ⟨a1_0, a1_1, ⟨a1_2, a1_3⟩, ⟨a1_4, a1_5⟩, a1_6⟩ ⟨⟨a2_0, a2_1⟩, ⟨a2_2, a2_3⟩⟩ a3 a4_0 a4_1).f1.f0, (DiveV ⟨a0_0, a0_1, a0_2, a0_3, a0_4, a0_5, a0_6, l0_7, l0_8⟩ ⟨a1_0, a1_1, ⟨a1_2, a1_3⟩, ⟨a1_4, a1_5⟩, a1_6⟩ ⟨⟨a2_0, a2_1⟩, ⟨a2_2, a2_3⟩⟩ a3 a4_0 a4_1).f1.f1, DiveE ⟨a0_0, a0_1, a0_2, a0_3, a0_4, a0_5, a0_6, l0_7, l0_8⟩ ⟨a1_0, a1_1, ⟨a1_2, a1_3⟩, ⟨a1_4, a1_5⟩, a1_6⟩ ⟨⟨a2_0, a2_1⟩, ⟨a2_2, a2_3⟩⟩ a3 a4_0 a4_1)
theorem glider_Dive.calls (a0_0 : Int) (a0_1 : Int) (a0_2 : Int) (a0_3 : Int) (a0_4 : Int) (a0_5 : Int) (a0_6 : Int) (A0_7 : Option Addr) (c0_7 : Nat) (l0_7 : List Bool) (A0_8 : Option Addr) (c0_8 : Nat) (l0_8 : List (S40)) (a1_0 : Int) (a1_1 : Int) (a1_2 : Int) (a1_3 : Int) (a1_4 : Int) (a1_5 : Int) (a1_6 : Int) (a2_0 : Int) (a2_1 : Int) (a2_2 : Int) (a2_3 : Int) (a3 : Int) (a4_0 : Int) (a4_1 : Int) (r1 : Int) (r2 : Int) (r3 : Int) (r4 : Int) (r5 : Int) (w : World) (hr0_7 : Kd.C Kd.bool w A0_7 l0_7.length l0_7) (hc0_7 : l0_7.length ≤ c0_7) (hr0_8 : Kd.C k40 w A0_8 l0_8.length l0_8) (hc0_8 : l0_8.length ≤ c0_8) (h : glider_Dive.f a0_0 a0_1 a0_2 a0_3 a0_4 a0_5 a0_6 l0_7 l0_8 a1_0 a1_1 a1_2 a1_3 a1_4 a1_5 a1_6 a2_0 a2_1 a2_2 a2_3 a3 a4_0 a4_1 = some (r1, r2, r3, r4, r5)) :
    Calls Try.prog 20 #[.agg #[.int .i64 a0_0, .int .i64 a0_1, .int .i64 a0_2, .int .i64 a0_3, .int .i64 a0_4, .int .i64 a0_5, .int .i64 a0_6, .slice A0_7 l0_7.length c0_7, .slice A0_8 l0_8.length c0_8], .agg #[.int .i64 a1_0, .int .i64 a1_1, .int .i64 a1_2, .int .i64 a1_3, .int .i64 a1_4, .int .i64 a1_5, .int .i64 a1_6], .agg #[.int .i64 a2_0, .int .i64 a2_1, .int .i64 a2_2, .int .i64 a2_3], .int .i64 a3, .agg #[.int .i64 a4_0, .int .i64 a4_1]] w fun e w' => e = .returned (.tuple #[.agg #[.int .i64 r1, .int .i64 r2, .int .i64 r3, .int .i64 r4], .int .i64 r5]) ∧ Below w.heap.size w w' := by
  cases h
  exact Dive_any ⟨a0_0, a0_1, a0_2, a0_3, a0_4, a0_5, a0_6, l0_7, l0_8⟩ ⟨a1_0, a1_1, ⟨a1_2, a1_3⟩, ⟨a1_4, a1_5⟩, a1_6⟩ ⟨⟨a2_0, a2_1⟩, ⟨a2_2, a2_3⟩⟩ a3 a4_0 a4_1 A0_7 A0_8 c0_7 c0_8 w hc0_7 hr0_7 hc0_8 hr0_8

end Go.Proofs.Ytmhaiihjfgfaoaa.Pr
end
section
-- PRINTED by print.py (a twelfth state) out of the translation. Not trusted: Lean checks it.
namespace Go.Proofs.Ytmhaiihjfgfaoaa.Pr
open Go.RowKit Go.Proofs.YtmhaiihjfgfaoaaW.PrintWords Go.Proofs.YtmhaiihjfgfaoaaW.PrintLast Go.Proofs.YtmhaiihjfgfaoaaW.PrintMore
attribute [local go_sem] max2_int min2_int max_two min_two max_four
set_option linter.unusedVariables false
set_option linter.unusedSimpArgs false

attribute [local go_sem high] eqA31
/-! ### isobathlaw03_Works: function 19 -/
def isobathlaw03_Works.f (k : Nat)  : Option (Bool) := (isobathlaw03_Example.f k).bind fun bt259 => ((isobathlaw03_point.f 2000 2000).bind fun bt281 => ((glider_Dive.f bt259.1 bt259.2.1 bt259.2.2.1 bt259.2.2.2.1 bt259.2.2.2.2.1 bt259.2.2.2.2.2.1 bt259.2.2.2.2.2.2.1 bt259.2.2.2.2.2.2.2.1 bt259.2.2.2.2.2.2.2.2.1 bt259.2.2.2.2.2.2.2.2.2.1 bt259.2.2.2.2.2.2.2.2.2.2.1 bt259.2.2.2.2.2.2.2.2.2.2.2.1 bt259.2.2.2.2.2.2.2.2.2.2.2.2.1 bt259.2.2.2.2.2.2.2.2.2.2.2.2.2.1 bt259.2.2.2.2.2.2.2.2.2.2.2.2.2.2.1 bt259.2.2.2.2.2.2.2.2.2.2.2.2.2.2.2 bt281.1 bt281.2.1 bt281.2.2.1 bt281.2.2.2 0 2 0).bind fun bt285 => ((glider_Lasts.f k bt259.2.2.2.2.2.2.2.2.2.1 bt259.2.2.2.2.2.2.2.2.2.2.1 bt259.2.2.2.2.2.2.2.2.2.2.2.1 bt259.2.2.2.2.2.2.2.2.2.2.2.2.1 bt259.2.2.2.2.2.2.2.2.2.2.2.2.2.1 bt259.2.2.2.2.2.2.2.2.2.2.2.2.2.2.1 bt259.2.2.2.2.2.2.2.2.2.2.2.2.2.2.2 300 310).bind fun bt291 => (if (wrap64 (bt285.2.2.2.2 + bt291.2)) = 0 then (if bt291.1 = 3 then (some ((bt285.1 == 2200 && (bt285.2.1 == 2400)) && ((bt285.2.2.1 == 2000 && (bt285.2.2.2.1 == 2000))))) else (some false)) else (some false)))))
theorem isobathlaw03_Works.mono : ∀ k, LeO (isobathlaw03_Works.f k ) (isobathlaw03_Works.f (k + 1) ) := by
  intro  k
  unfold isobathlaw03_Works.f
  repeat' first
      | (with_reducible exact glider_Lasts.mono _ _ _ _ _ _ _ _ _ _)
      | (with_reducible exact isobathlaw03_Example.mono _)
      | (with_reducible exact LeO.refl _)
      | (with_reducible exact LeO.none _)
      | (with_reducible refine LeO.ite ?_ ?_)
      | (with_reducible refine LeO.bind ?_ (fun _ => ?_))
      | exact glider_Lasts.mono _ _ _ _ _ _ _ _ _ _
      | exact isobathlaw03_Example.mono _
      | exact LeO.none _
      | refine LeO.ite ?_ ?_
      | refine LeO.bind ?_ (fun _ => ?_)
def isobathlaw03_Works.T2 : Bool × List (List Nat × List Nat) := (true, [([], []), ([], []), ([], []), ([], []), ([0, 1, 2, 3, 2], [0, 1, 2, 3]), ([4], [4]), ([5], [5]), ([5], [5]), ([], []), ([8, 6, 4, 0, 1, 2, 3, 4, 5, 6, 8], [6, 8]), ([7, 9, 0, 1, 2, 3, 4, 5, 6, 7, 8, 9], [7])])
def isobathlaw03_Works.B2 : List Nat := [0, 0, 0, 0, 15, 31, 63, 63, 0, 383, 1023]
theorem isobathlaw03_Works.tab2 : rtab .any (opsOf Try.f19 2) = isobathlaw03_Works.T2 := by kernel_rfl
theorem isobathlaw03_Works.bits2 : waitsOk isobathlaw03_Works.T2.2 isobathlaw03_Works.B2 = true := by kernel_rfl
set_option maxRecDepth 100000 in
theorem isobathlaw03_Works.true_ : isobathlaw03_Works.f 60 = some true := by kernel_rfl
set_option maxHeartbeats 8000000 in
set_option maxRecDepth 100000 in
theorem isobathlaw03_Works.calls (k : Nat)  (r : Bool) (w : World) (h : isobathlaw03_Works.f k  = some r) :
    Calls Try.prog 19 #[] w fun e w' => e = .returned (.bool r) ∧ Below w.heap.size w w' := by
  have hr_ : Aside0 (r = true) := ⟨Option.some.inj ((at_rounds isobathlaw03_Works.mono (Nat.le_max_left k 60) h).symm.trans (at_rounds isobathlaw03_Works.mono (Nat.le_max_right k 60) isobathlaw03_Works.true_))⟩
  have hu25 := Try.underlying25
  have hu29 := Try.underlying29
  have hu33 := Try.underlying33
  have hu31 := Try.underlying31
  have hu27 := Try.underlying27
  have HB := Aside0.mk (Below.refl w.heap.size w)
  have H : ((isobathlaw03_Example.f k).bind fun bt259 => ((isobathlaw03_point.f 2000 2000).bind fun bt281 => ((glider_Dive.f bt259.1 bt259.2.1 bt259.2.2.1 bt259.2.2.2.1 bt259.2.2.2.2.1 bt259.2.2.2.2.2.1 bt259.2.2.2.2.2.2.1 bt259.2.2.2.2.2.2.2.1 bt259.2.2.2.2.2.2.2.2.1 bt259.2.2.2.2.2.2.2.2.2.1 bt259.2.2.2.2.2.2.2.2.2.2.1 bt259.2.2.2.2.2.2.2.2.2.2.2.1 bt259.2.2.2.2.2.2.2.2.2.2.2.2.1 bt259.2.2.2.2.2.2.2.2.2.2.2.2.2.1 bt259.2.2.2.2.2.2.2.2.2.2.2.2.2.2.1 bt259.2.2.2.2.2.2.2.2.2.2.2.2.2.2.2 bt281.1 bt281.2.1 bt281.2.2.1 bt281.2.2.2 0 2 0).bind fun bt285 => ((glider_Lasts.f k bt259.2.2.2.2.2.2.2.2.2.1 bt259.2.2.2.2.2.2.2.2.2.2.1 bt259.2.2.2.2.2.2.2.2.2.2.2.1 bt259.2.2.2.2.2.2.2.2.2.2.2.2.1 bt259.2.2.2.2.2.2.2.2.2.2.2.2.2.1 bt259.2.2.2.2.2.2.2.2.2.2.2.2.2.2.1 bt259.2.2.2.2.2.2.2.2.2.2.2.2.2.2.2 300 310).bind fun bt291 => (if (wrap64 (bt285.2.2.2.2 + bt291.2)) = 0 then (if bt291.1 = 3 then (some ((bt285.1 == 2200 && (bt285.2.1 == 2400)) && ((bt285.2.2.1 == 2000 && (bt285.2.2.2.1 == 2000))))) else (some false)) else (some false)))))) = some r := h
  clear h
  replace H := Option.bind_eq_some_iff.mp H
  obtain ⟨⟨t259, t260, t261, t262, t263, t264, t265, t266, t269, t272, t273, t274, t275, t276, t277, t278⟩, A10, H⟩ := H
  replace H : ((isobathlaw03_point.f 2000 2000).bind fun bt281 => ((glider_Dive.f t259 t260 t261 t262 t263 t264 t265 t266 t269 t272 t273 t274 t275 t276 t277 t278 bt281.1 bt281.2.1 bt281.2.2.1 bt281.2.2.2 0 2 0).bind fun bt285 => ((glider_Lasts.f k t272 t273 t274 t275 t276 t277 t278 300 310).bind fun bt291 => (if (wrap64 (bt285.2.2.2.2 + bt291.2)) = 0 then (if bt291.1 = 3 then (some ((bt285.1 == 2200 && (bt285.2.1 == 2400)) && ((bt285.2.2.1 == 2000 && (bt285.2.2.2.1 == 2000))))) else (some false)) else (some false))))) = some r := H
  have A1 := Aside0.mk A10
  clear A10
  replace H := Option.bind_eq_some_iff.mp H
  obtain ⟨⟨t281, t282, t283, t284⟩, A20, H⟩ := H
  replace H : ((glider_Dive.f t259 t260 t261 t262 t263 t264 t265 t266 t269 t272 t273 t274 t275 t276 t277 t278 t281 t282 t283 t284 0 2 0).bind fun bt285 => ((glider_Lasts.f k t272 t273 t274 t275 t276 t277 t278 300 310).bind fun bt291 => (if (wrap64 (bt285.2.2.2.2 + bt291.2)) = 0 then (if bt291.1 = 3 then (some ((bt285.1 == 2200 && (bt285.2.1 == 2400)) && ((bt285.2.2.1 == 2000 && (bt285.2.2.2.1 == 2000))))) else (some false)) else (some false)))) = some r := H
  have A2 := Aside0.mk A20
  clear A20
  replace H := Option.bind_eq_some_iff.mp H
  obtain ⟨⟨t285, t286, t287, t288, t289⟩, A30, H⟩ := H
  replace H : ((glider_Lasts.f k t272 t273 t274 t275 t276 t277 t278 300 310).bind fun bt291 => (if (wrap64 (t289 + bt291.2)) = 0 then (if bt291.1 = 3 then (some ((t285 == 2200 && (t286 == 2400)) && ((t287 == 2000 && (t288 == 2000))))) else (some false)) else (some false))) = some r := H
  have A3 := Aside0.mk A30
  clear A30
  replace H := Option.bind_eq_some_iff.mp H
  obtain ⟨⟨t291, t292⟩, A40, H⟩ := H
  replace H : (if (wrap64 (t289 + t292)) = 0 then (if t291 = 3 then (some ((t285 == 2200 && (t286 == 2400)) && ((t287 == 2000 && (t288 == 2000))))) else (some false)) else (some false)) = some r := H
  have A4 := Aside0.mk A40
  clear A40
  by_cases c5 : (wrap64 (t289 + t292)) = 0
  · rw [if_pos c5] at H
    have c5b0 : ((wrap64 (t289 + t292)) == 0) = true := beq_iff_eq.mpr c5
    have c5b1 : ((wrap64 (t289 + t292)) != 0) = false := bne_eq_false_iff_eq.mpr c5
    clear c5
    by_cases c6 : t291 = 3
    · rw [if_pos c6] at H
      have c6b0 : (t291 == 3) = true := beq_iff_eq.mpr c6
      have c6b1 : (t291 != 3) = false := bne_eq_false_iff_eq.mpr c6
      clear c6
      obtain rfl := Option.some.inj H
      go_enter Try.func19, Try.ntmps19
      try go_wp2_with (first | ((with_reducible refine gate_callee (f := 61) rfl ?_); refine goesL_ (some 8) rfl rfl Try.func61 (by kernel_rfl) rfl #[] rfl (by (try simp only [List.map_toArray, List.map_cons, List.map_nil]); first | done | rfl | (simp only [List.length_drop, List.length_take]; rfl)) ?_; (with_reducible refine (isobathlaw03_Example.calls k  t259 t260 t261 t262 t263 t264 t265 t266 t269 t272 t273 t274 t275 t276 t277 t278 _ A1.out).mono ?_); rintro e w7 ⟨v267, v270, rfl, ho0, ho1, hb⟩; refine ⟨_, rfl, ?_⟩; have n0_ := Aside0.mk (Kd.R_lower ho0 (below_size (by repeat (first | (with_reducible first | exact HB.out | apply below_alloc | apply pw_below_drewN | apply below_drew1) | exact HB.out)))); have n1_ := Aside0.mk (Kd.R_lower ho1 (below_size (by repeat (first | (with_reducible first | exact HB.out | apply below_alloc | apply pw_below_drewN | apply below_drew1) | exact HB.out)))); have n2_ := Aside0.mk (below_step (by repeat (first | (with_reducible first | exact HB.out | apply below_alloc | apply pw_below_drewN | apply below_drew1) | exact HB.out)) hb); clear HB; have HO268 := n0_; have HO271 := n1_; have HB := n2_; clear n0_ n1_ n2_; (try clear hb); (try clear hb2); (try clear hk); (try clear hi); (try clear ho0); (try clear ho1)) | ((with_reducible refine gate_dst (N := 1) rfl ?_); refine box_event ?hg (N := 1) ?hd (cs := #[.int .i64 0, .int .i64 0, .int .i64 0, .int .i64 0, .int .i64 0, .int .i64 0, .int .i64 0, .slice none 0 0, .slice none 0 0]) (t := 25) ?hr ?_; (case hd => rfl); (case hg => rfl); (case hr => first | (go_simp; done) | (go_simp; rfl)); intro gb279 hg w8 hbox hb; have n0_ := Aside0.mk (Kd.R_below (by (with_reducible repeat (first | apply Kd.R_alloc | apply Kd.R_drewN | apply Kd.R_drew)); exact HO268.out) hb); have n1_ := Aside0.mk (Kd.R_below (by (with_reducible repeat (first | apply Kd.R_alloc | apply Kd.R_drewN | apply Kd.R_drew)); exact HO271.out) hb); have n2_ := Aside0.mk (below_step (by repeat (first | (with_reducible first | exact HB.out | apply below_alloc | apply pw_below_drewN | apply below_drew1) | exact HB.out)) hb); have n3_ := Aside0.mk (hbox); have n4_ := Aside0.mk ((by rw [hg]; exact (below_size (by repeat (first | (with_reducible first | exact HB.out | apply below_alloc | apply pw_below_drewN | apply below_drew1) | exact HB.out))) : w.heap.size ≤ gb279)); have n5_ := Aside0.mk ((by rw [hg]; exact (below_size (by repeat (first | (with_reducible first | exact HB.out | apply below_alloc | apply pw_below_drewN | apply below_drew1) | exact HB.out))) : w.heap.size ≤ gb279)); clear HO268; clear HO271; clear HB; have HO268 := n0_; have HO271 := n1_; have HB := n2_; have BK279 := n3_; have GW279 := n4_; have GE279 := n5_; clear n0_ n1_ n2_ n3_ n4_ n5_; clear hb hbox hg) | ((with_reducible refine gate_dst (N := 2) rfl ?_); refine box_event ?hg (N := 2) ?hd (cs := #[.int .i64 0, .int .i64 0, .int .i64 0, .int .i64 0, .int .i64 0, .int .i64 0, .int .i64 0]) (t := 29) ?hr ?_; (case hd => rfl); (case hg => rfl); (case hr => first | (go_simp; done) | (go_simp; rfl)); intro gb280 hg w9 hbox hb; have n0_ := Aside0.mk (Kd.R_below (by (with_reducible repeat (first | apply Kd.R_alloc | apply Kd.R_drewN | apply Kd.R_drew)); exact HO268.out) hb); have n1_ := Aside0.mk (Kd.R_below (by (with_reducible repeat (first | apply Kd.R_alloc | apply Kd.R_drewN | apply Kd.R_drew)); exact HO271.out) hb); have n2_ := Aside0.mk (blk_below (g := gb279) (o := .cells #[.int .i64 0, .int .i64 0, .int .i64 0, .int .i64 0, .int .i64 0, .int .i64 0, .int .i64 0, .slice none 0 0, .slice none 0 0] 25 (0, 0)) (by (with_reducible repeat (first | refine blk_drewN ?_ _ | refine blk_drew ?_ | refine blk_alloc ?_ _)); exact BK279.out) hb); have n3_ := Aside0.mk (below_step (by repeat (first | (with_reducible first | exact HB.out | apply below_alloc | apply pw_below_drewN | apply below_drew1 | refine below_set ?_ GE279.out) | exact HB.out)) hb); have n4_ := Aside0.mk (hbox); have n5_ := Aside0.mk ((by rw [hg]; exact (below_size (by repeat (first | (with_reducible first | exact HB.out | apply below_alloc | apply pw_below_drewN | apply below_drew1 | refine below_set ?_ GE279.out) | exact HB.out))) : w.heap.size ≤ gb280)); have n6_ := Aside0.mk ((by rw [hg]; exact (below_size (by repeat (first | (with_reducible first | exact HB.out | apply below_alloc | apply pw_below_drewN | apply below_drew1 | refine below_set ?_ GE279.out) | exact HB.out))) : w.heap.size ≤ gb280)); have n7_ := Aside0.mk ((by rw [hg]; exact Nat.ne_of_lt (blk_lt (g := gb279) (o := .cells #[.int .i64 0, .int .i64 0, .int .i64 0, .int .i64 0, .int .i64 0, .int .i64 0, .int .i64 0, .slice none 0 0, .slice none 0 0] 25 (0, 0)) (by (with_reducible repeat (first | refine blk_drewN ?_ _ | refine blk_drew ?_ | refine blk_alloc ?_ _)); exact BK279.out)) : gb279 ≠ gb280)); have n8_ := Aside0.mk ((by rw [hg]; exact Nat.ne_of_gt (blk_lt (g := gb279) (o := .cells #[.int .i64 0, .int .i64 0, .int .i64 0, .int .i64 0, .int .i64 0, .int .i64 0, .int .i64 0, .slice none 0 0, .slice none 0 0] 25 (0, 0)) (by (with_reducible repeat (first | refine blk_drewN ?_ _ | refine blk_drew ?_ | refine blk_alloc ?_ _)); exact BK279.out)) : gb280 ≠ gb279)); clear HO268; clear HO271; clear BK279; clear HB; have HO268 := n0_; have HO271 := n1_; have BK279 := n2_; have HB := n3_; have BK280 := n4_; have GW280 := n5_; have GE280 := n6_; have NB279_280 := n7_; have NB280_279 := n8_; clear n0_ n1_ n2_ n3_ n4_ n5_ n6_ n7_ n8_; clear hb hbox hg; have hnb10 := NB279_280.out; have hnc10 := NB280_279.out; have hcz11_0 : w9.cell? ⟨gb279, 0, none⟩ = some (.int .i64 0) := (blk_cell BK279.out 0).trans rfl; have hcz11_1 : w9.cell? ⟨gb279, 1, none⟩ = some (.int .i64 0) := (blk_cell BK279.out 1).trans rfl; have hcz11_2 : w9.cell? ⟨gb279, 2, none⟩ = some (.int .i64 0) := (blk_cell BK279.out 2).trans rfl; have hcz11_3 : w9.cell? ⟨gb279, 3, none⟩ = some (.int .i64 0) := (blk_cell BK279.out 3).trans rfl; have hcz11_4 : w9.cell? ⟨gb279, 4, none⟩ = some (.int .i64 0) := (blk_cell BK279.out 4).trans rfl; have hcz11_5 : w9.cell? ⟨gb279, 5, none⟩ = some (.int .i64 0) := (blk_cell BK279.out 5).trans rfl; have hcz11_6 : w9.cell? ⟨gb279, 6, none⟩ = some (.int .i64 0) := (blk_cell BK279.out 6).trans rfl; have hcz11_7 : w9.cell? ⟨gb279, 7, none⟩ = some (.slice none 0 0) := (blk_cell BK279.out 7).trans rfl; have hcz11_8 : w9.cell? ⟨gb279, 8, none⟩ = some (.slice none 0 0) := (blk_cell BK279.out 8).trans rfl; have hfz11_0 := blk_frozen BK279.out 0; have hfz11_1 := blk_frozen BK279.out 1; have hfz11_2 := blk_frozen BK279.out 2; have hfz11_3 := blk_frozen BK279.out 3; have hfz11_4 := blk_frozen BK279.out 4; have hfz11_5 := blk_frozen BK279.out 5; have hfz11_6 := blk_frozen BK279.out 6; have hfz11_7 := blk_frozen BK279.out 7; have hfz11_8 := blk_frozen BK279.out 8; obtain ⟨Ao12, co12, eo12⟩ := Kd.R_slice HO268.out; subst eo12; obtain ⟨Ao13, co13, eo13⟩ := Kd.R_slice HO271.out; subst eo13; have hcz14_0 : w9.cell? ⟨gb280, 0, none⟩ = some (.int .i64 0) := (blk_cell BK280.out 0).trans rfl; have hcz14_1 : w9.cell? ⟨gb280, 1, none⟩ = some (.int .i64 0) := (blk_cell BK280.out 1).trans rfl; have hcz14_2 : w9.cell? ⟨gb280, 2, none⟩ = some (.int .i64 0) := (blk_cell BK280.out 2).trans rfl; have hcz14_3 : w9.cell? ⟨gb280, 3, none⟩ = some (.int .i64 0) := (blk_cell BK280.out 3).trans rfl; have hcz14_4 : w9.cell? ⟨gb280, 4, none⟩ = some (.int .i64 0) := (blk_cell BK280.out 4).trans rfl; have hcz14_5 : w9.cell? ⟨gb280, 5, none⟩ = some (.int .i64 0) := (blk_cell BK280.out 5).trans rfl; have hcz14_6 : w9.cell? ⟨gb280, 6, none⟩ = some (.int .i64 0) := (blk_cell BK280.out 6).trans rfl; have hfz14_0 := blk_frozen BK280.out 0; have hfz14_1 := blk_frozen BK280.out 1; have hfz14_2 := blk_frozen BK280.out 2; have hfz14_3 := blk_frozen BK280.out 3; have hfz14_4 := blk_frozen BK280.out 4; have hfz14_5 := blk_frozen BK280.out 5; have hfz14_6 := blk_frozen BK280.out 6))
      have n0_ : Aside0 (Kd.R Kd.bool 4 ((((((((((((((((w9.setCell ⟨gb279, 0, none⟩ (.int .i64 t259)).setCell ⟨gb279, 1, none⟩ (.int .i64 t260)).setCell ⟨gb279, 2, none⟩ (.int .i64 t261)).setCell ⟨gb279, 3, none⟩ (.int .i64 t262)).setCell ⟨gb279, 4, none⟩ (.int .i64 t263)).setCell ⟨gb279, 5, none⟩ (.int .i64 t264)).setCell ⟨gb279, 6, none⟩ (.int .i64 t265)).setCell ⟨gb279, 7, none⟩ (.slice Ao12 t266.length co12)).setCell ⟨gb279, 8, none⟩ (.slice Ao13 t269.length co13)).setCell ⟨gb280, 0, none⟩ (.int .i64 t272)).setCell ⟨gb280, 1, none⟩ (.int .i64 t273)).setCell ⟨gb280, 2, none⟩ (.int .i64 t274)).setCell ⟨gb280, 3, none⟩ (.int .i64 t275)).setCell ⟨gb280, 4, none⟩ (.int .i64 t276)).setCell ⟨gb280, 5, none⟩ (.int .i64 t277)).setCell ⟨gb280, 6, none⟩ (.int .i64 t278)) w.heap.size (fun _ => True) (.slice Ao12 t266.length co12) t266) := ⟨by (with_reducible repeat (first | apply Kd.R_alloc | apply Kd.R_drewN | apply Kd.R_drew)); exact Kd.R_mono (Kd.R_far (p := ⟨gb280, 6, none⟩) (Kd.R_far (p := ⟨gb280, 5, none⟩) (Kd.R_far (p := ⟨gb280, 4, none⟩) (Kd.R_far (p := ⟨gb280, 3, none⟩) (Kd.R_far (p := ⟨gb280, 2, none⟩) (Kd.R_far (p := ⟨gb280, 1, none⟩) (Kd.R_far (p := ⟨gb280, 0, none⟩) (Kd.R_far (p := ⟨gb279, 8, none⟩) (Kd.R_far (p := ⟨gb279, 7, none⟩) (Kd.R_far (p := ⟨gb279, 6, none⟩) (Kd.R_far (p := ⟨gb279, 5, none⟩) (Kd.R_far (p := ⟨gb279, 4, none⟩) (Kd.R_far (p := ⟨gb279, 3, none⟩) (Kd.R_far (p := ⟨gb279, 2, none⟩) (Kd.R_far (p := ⟨gb279, 1, none⟩) (Kd.R_far (p := ⟨gb279, 0, none⟩) (Kd.R_types (Kd.R_types HO268.out BK279.out (by decide)) BK280.out (by decide)) (fun _ hk => hk.1.2) (.int .i64 t259)) (fun _ hk => hk.1.2) (.int .i64 t260)) (fun _ hk => hk.1.2) (.int .i64 t261)) (fun _ hk => hk.1.2) (.int .i64 t262)) (fun _ hk => hk.1.2) (.int .i64 t263)) (fun _ hk => hk.1.2) (.int .i64 t264)) (fun _ hk => hk.1.2) (.int .i64 t265)) (fun _ hk => hk.1.2) (.slice Ao12 t266.length co12)) (fun _ hk => hk.1.2) (.slice Ao13 t269.length co13)) (fun _ hk => hk.2) (.int .i64 t272)) (fun _ hk => hk.2) (.int .i64 t273)) (fun _ hk => hk.2) (.int .i64 t274)) (fun _ hk => hk.2) (.int .i64 t275)) (fun _ hk => hk.2) (.int .i64 t276)) (fun _ hk => hk.2) (.int .i64 t277)) (fun _ hk => hk.2) (.int .i64 t278)) (fun _ hk => trivial)⟩
      have n1_ : Aside0 (Kd.R k40 40 ((((((((((((((((w9.setCell ⟨gb279, 0, none⟩ (.int .i64 t259)).setCell ⟨gb279, 1, none⟩ (.int .i64 t260)).setCell ⟨gb279, 2, none⟩ (.int .i64 t261)).setCell ⟨gb279, 3, none⟩ (.int .i64 t262)).setCell ⟨gb279, 4, none⟩ (.int .i64 t263)).setCell ⟨gb279, 5, none⟩ (.int .i64 t264)).setCell ⟨gb279, 6, none⟩ (.int .i64 t265)).setCell ⟨gb279, 7, none⟩ (.slice Ao12 t266.length co12)).setCell ⟨gb279, 8, none⟩ (.slice Ao13 t269.length co13)).setCell ⟨gb280, 0, none⟩ (.int .i64 t272)).setCell ⟨gb280, 1, none⟩ (.int .i64 t273)).setCell ⟨gb280, 2, none⟩ (.int .i64 t274)).setCell ⟨gb280, 3, none⟩ (.int .i64 t275)).setCell ⟨gb280, 4, none⟩ (.int .i64 t276)).setCell ⟨gb280, 5, none⟩ (.int .i64 t277)).setCell ⟨gb280, 6, none⟩ (.int .i64 t278)) w.heap.size (fun _ => True) (.slice Ao13 t269.length co13) t269) := ⟨by (with_reducible repeat (first | apply Kd.R_alloc | apply Kd.R_drewN | apply Kd.R_drew)); exact Kd.R_mono (Kd.R_far (p := ⟨gb280, 6, none⟩) (Kd.R_far (p := ⟨gb280, 5, none⟩) (Kd.R_far (p := ⟨gb280, 4, none⟩) (Kd.R_far (p := ⟨gb280, 3, none⟩) (Kd.R_far (p := ⟨gb280, 2, none⟩) (Kd.R_far (p := ⟨gb280, 1, none⟩) (Kd.R_far (p := ⟨gb280, 0, none⟩) (Kd.R_far (p := ⟨gb279, 8, none⟩) (Kd.R_far (p := ⟨gb279, 7, none⟩) (Kd.R_far (p := ⟨gb279, 6, none⟩) (Kd.R_far (p := ⟨gb279, 5, none⟩) (Kd.R_far (p := ⟨gb279, 4, none⟩) (Kd.R_far (p := ⟨gb279, 3, none⟩) (Kd.R_far (p := ⟨gb279, 2, none⟩) (Kd.R_far (p := ⟨gb279, 1, none⟩) (Kd.R_far (p := ⟨gb279, 0, none⟩) (Kd.R_types (Kd.R_types HO271.out BK279.out (by decide)) BK280.out (by decide)) (fun _ hk => hk.1.2) (.int .i64 t259)) (fun _ hk => hk.1.2) (.int .i64 t260)) (fun _ hk => hk.1.2) (.int .i64 t261)) (fun _ hk => hk.1.2) (.int .i64 t262)) (fun _ hk => hk.1.2) (.int .i64 t263)) (fun _ hk => hk.1.2) (.int .i64 t264)) (fun _ hk => hk.1.2) (.int .i64 t265)) (fun _ hk => hk.1.2) (.slice Ao12 t266.length co12)) (fun _ hk => hk.1.2) (.slice Ao13 t269.length co13)) (fun _ hk => hk.2) (.int .i64 t272)) (fun _ hk => hk.2) (.int .i64 t273)) (fun _ hk => hk.2) (.int .i64 t274)) (fun _ hk => hk.2) (.int .i64 t275)) (fun _ hk => hk.2) (.int .i64 t276)) (fun _ hk => hk.2) (.int .i64 t277)) (fun _ hk => hk.2) (.int .i64 t278)) (fun _ hk => trivial)⟩
      have n2_ : Aside0 (((((((((((((((((w9.setCell ⟨gb279, 0, none⟩ (.int .i64 t259)).setCell ⟨gb279, 1, none⟩ (.int .i64 t260)).setCell ⟨gb279, 2, none⟩ (.int .i64 t261)).setCell ⟨gb279, 3, none⟩ (.int .i64 t262)).setCell ⟨gb279, 4, none⟩ (.int .i64 t263)).setCell ⟨gb279, 5, none⟩ (.int .i64 t264)).setCell ⟨gb279, 6, none⟩ (.int .i64 t265)).setCell ⟨gb279, 7, none⟩ (.slice Ao12 t266.length co12)).setCell ⟨gb279, 8, none⟩ (.slice Ao13 t269.length co13)).setCell ⟨gb280, 0, none⟩ (.int .i64 t272)).setCell ⟨gb280, 1, none⟩ (.int .i64 t273)).setCell ⟨gb280, 2, none⟩ (.int .i64 t274)).setCell ⟨gb280, 3, none⟩ (.int .i64 t275)).setCell ⟨gb280, 4, none⟩ (.int .i64 t276)).setCell ⟨gb280, 5, none⟩ (.int .i64 t277)).setCell ⟨gb280, 6, none⟩ (.int .i64 t278)).heap[gb279]? = some (.cells #[.int .i64 t259, .int .i64 t260, .int .i64 t261, .int .i64 t262, .int .i64 t263, .int .i64 t264, .int .i64 t265, .slice Ao12 t266.length co12, .slice Ao13 t269.length co13] 25 (0, 0))) := ⟨by (with_reducible repeat (first | refine blk_drewN ?_ _ | refine blk_drew ?_ | refine blk_alloc ?_ _)); refine blk_far ?_ NB279_280.out _; (with_reducible repeat (first | refine blk_drewN ?_ _ | refine blk_drew ?_ | refine blk_alloc ?_ _)); refine blk_far ?_ NB279_280.out _; (with_reducible repeat (first | refine blk_drewN ?_ _ | refine blk_drew ?_ | refine blk_alloc ?_ _)); refine blk_far ?_ NB279_280.out _; (with_reducible repeat (first | refine blk_drewN ?_ _ | refine blk_drew ?_ | refine blk_alloc ?_ _)); refine blk_far ?_ NB279_280.out _; (with_reducible repeat (first | refine blk_drewN ?_ _ | refine blk_drew ?_ | refine blk_alloc ?_ _)); refine blk_far ?_ NB279_280.out _; (with_reducible repeat (first | refine blk_drewN ?_ _ | refine blk_drew ?_ | refine blk_alloc ?_ _)); refine blk_far ?_ NB279_280.out _; (with_reducible repeat (first | refine blk_drewN ?_ _ | refine blk_drew ?_ | refine blk_alloc ?_ _)); refine blk_far ?_ NB279_280.out _; (with_reducible repeat (first | refine blk_drewN ?_ _ | refine blk_drew ?_ | refine blk_alloc ?_ _)); refine blk_put (cs := #[.int .i64 t259, .int .i64 t260, .int .i64 t261, .int .i64 t262, .int .i64 t263, .int .i64 t264, .int .i64 t265, .slice Ao12 t266.length co12, .slice none 0 0]) ?_ 8 _ rfl; (with_reducible repeat (first | refine blk_drewN ?_ _ | refine blk_drew ?_ | refine blk_alloc ?_ _)); refine blk_put (cs := #[.int .i64 t259, .int .i64 t260, .int .i64 t261, .int .i64 t262, .int .i64 t263, .int .i64 t264, .int .i64 t265, .slice none 0 0, .slice none 0 0]) ?_ 7 _ rfl; (with_reducible repeat (first | refine blk_drewN ?_ _ | refine blk_drew ?_ | refine blk_alloc ?_ _)); refine blk_put (cs := #[.int .i64 t259, .int .i64 t260, .int .i64 t261, .int .i64 t262, .int .i64 t263, .int .i64 t264, .int .i64 0, .slice none 0 0, .slice none 0 0]) ?_ 6 _ rfl; (with_reducible repeat (first | refine blk_drewN ?_ _ | refine blk_drew ?_ | refine blk_alloc ?_ _)); refine blk_put (cs := #[.int .i64 t259, .int .i64 t260, .int .i64 t261, .int .i64 t262, .int .i64 t263, .int .i64 0, .int .i64 0, .slice none 0 0, .slice none 0 0]) ?_ 5 _ rfl; (with_reducible repeat (first | refine blk_drewN ?_ _ | refine blk_drew ?_ | refine blk_alloc ?_ _)); refine blk_put (cs := #[.int .i64 t259, .int .i64 t260, .int .i64 t261, .int .i64 t262, .int .i64 0, .int .i64 0, .int .i64 0, .slice none 0 0, .slice none 0 0]) ?_ 4 _ rfl; (with_reducible repeat (first | refine blk_drewN ?_ _ | refine blk_drew ?_ | refine blk_alloc ?_ _)); refine blk_put (cs := #[.int .i64 t259, .int .i64 t260, .int .i64 t261, .int .i64 0, .int .i64 0, .int .i64 0, .int .i64 0, .slice none 0 0, .slice none 0 0]) ?_ 3 _ rfl; (with_reducible repeat (first | refine blk_drewN ?_ _ | refine blk_drew ?_ | refine blk_alloc ?_ _)); refine blk_put (cs := #[.int .i64 t259, .int .i64 t260, .int .i64 0, .int .i64 0, .int .i64 0, .int .i64 0, .int .i64 0, .slice none 0 0, .slice none 0 0]) ?_ 2 _ rfl; (with_reducible repeat (first | refine blk_drewN ?_ _ | refine blk_drew ?_ | refine blk_alloc ?_ _)); refine blk_put (cs := #[.int .i64 t259, .int .i64 0, .int .i64 0, .int .i64 0, .int .i64 0, .int .i64 0, .int .i64 0, .slice none 0 0, .slice none 0 0]) ?_ 1 _ rfl; (with_reducible repeat (first | refine blk_drewN ?_ _ | refine blk_drew ?_ | refine blk_alloc ?_ _)); refine blk_put (cs := #[.int .i64 0, .int .i64 0, .int .i64 0, .int .i64 0, .int .i64 0, .int .i64 0, .int .i64 0, .slice none 0 0, .slice none 0 0]) ?_ 0 _ rfl; (with_reducible repeat (first | refine blk_drewN ?_ _ | refine blk_drew ?_ | refine blk_alloc ?_ _)); exact BK279.out⟩
      have n3_ : Aside0 (((((((((((((((((w9.setCell ⟨gb279, 0, none⟩ (.int .i64 t259)).setCell ⟨gb279, 1, none⟩ (.int .i64 t260)).setCell ⟨gb279, 2, none⟩ (.int .i64 t261)).setCell ⟨gb279, 3, none⟩ (.int .i64 t262)).setCell ⟨gb279, 4, none⟩ (.int .i64 t263)).setCell ⟨gb279, 5, none⟩ (.int .i64 t264)).setCell ⟨gb279, 6, none⟩ (.int .i64 t265)).setCell ⟨gb279, 7, none⟩ (.slice Ao12 t266.length co12)).setCell ⟨gb279, 8, none⟩ (.slice Ao13 t269.length co13)).setCell ⟨gb280, 0, none⟩ (.int .i64 t272)).setCell ⟨gb280, 1, none⟩ (.int .i64 t273)).setCell ⟨gb280, 2, none⟩ (.int .i64 t274)).setCell ⟨gb280, 3, none⟩ (.int .i64 t275)).setCell ⟨gb280, 4, none⟩ (.int .i64 t276)).setCell ⟨gb280, 5, none⟩ (.int .i64 t277)).setCell ⟨gb280, 6, none⟩ (.int .i64 t278)).heap[gb280]? = some (.cells #[.int .i64 t272, .int .i64 t273, .int .i64 t274, .int .i64 t275, .int .i64 t276, .int .i64 t277, .int .i64 t278] 29 (0, 0))) := ⟨by (with_reducible repeat (first | refine blk_drewN ?_ _ | refine blk_drew ?_ | refine blk_alloc ?_ _)); refine blk_put (cs := #[.int .i64 t272, .int .i64 t273, .int .i64 t274, .int .i64 t275, .int .i64 t276, .int .i64 t277, .int .i64 0]) ?_ 6 _ rfl; (with_reducible repeat (first | refine blk_drewN ?_ _ | refine blk_drew ?_ | refine blk_alloc ?_ _)); refine blk_put (cs := #[.int .i64 t272, .int .i64 t273, .int .i64 t274, .int .i64 t275, .int .i64 t276, .int .i64 0, .int .i64 0]) ?_ 5 _ rfl; (with_reducible repeat (first | refine blk_drewN ?_ _ | refine blk_drew ?_ | refine blk_alloc ?_ _)); refine blk_put (cs := #[.int .i64 t272, .int .i64 t273, .int .i64 t274, .int .i64 t275, .int .i64 0, .int .i64 0, .int .i64 0]) ?_ 4 _ rfl; (with_reducible repeat (first | refine blk_drewN ?_ _ | refine blk_drew ?_ | refine blk_alloc ?_ _)); refine blk_put (cs := #[.int .i64 t272, .int .i64 t273, .int .i64 t274, .int .i64 0, .int .i64 0, .int .i64 0, .int .i64 0]) ?_ 3 _ rfl; (with_reducible repeat (first | refine blk_drewN ?_ _ | refine blk_drew ?_ | refine blk_alloc ?_ _)); refine blk_put (cs := #[.int .i64 t272, .int .i64 t273, .int .i64 0, .int .i64 0, .int .i64 0, .int .i64 0, .int .i64 0]) ?_ 2 _ rfl; (with_reducible repeat (first | refine blk_drewN ?_ _ | refine blk_drew ?_ | refine blk_alloc ?_ _)); refine blk_put (cs := #[.int .i64 t272, .int .i64 0, .int .i64 0, .int .i64 0, .int .i64 0, .int .i64 0, .int .i64 0]) ?_ 1 _ rfl; (with_reducible repeat (first | refine blk_drewN ?_ _ | refine blk_drew ?_ | refine blk_alloc ?_ _)); refine blk_put (cs := #[.int .i64 0, .int .i64 0, .int .i64 0, .int .i64 0, .int .i64 0, .int .i64 0, .int .i64 0]) ?_ 0 _ rfl; (with_reducible repeat (first | refine blk_drewN ?_ _ | refine blk_drew ?_ | refine blk_alloc ?_ _)); refine blk_far ?_ NB280_279.out _; (with_reducible repeat (first | refine blk_drewN ?_ _ | refine blk_drew ?_ | refine blk_alloc ?_ _)); refine blk_far ?_ NB280_279.out _; (with_reducible repeat (first | refine blk_drewN ?_ _ | refine blk_drew ?_ | refine blk_alloc ?_ _)); refine blk_far ?_ NB280_279.out _; (with_reducible repeat (first | refine blk_drewN ?_ _ | refine blk_drew ?_ | refine blk_alloc ?_ _)); refine blk_far ?_ NB280_279.out _; (with_reducible repeat (first | refine blk_drewN ?_ _ | refine blk_drew ?_ | refine blk_alloc ?_ _)); refine blk_far ?_ NB280_279.out _; (with_reducible repeat (first | refine blk_drewN ?_ _ | refine blk_drew ?_ | refine blk_alloc ?_ _)); refine blk_far ?_ NB280_279.out _; (with_reducible repeat (first | refine blk_drewN ?_ _ | refine blk_drew ?_ | refine blk_alloc ?_ _)); refine blk_far ?_ NB280_279.out _; (with_reducible repeat (first | refine blk_drewN ?_ _ | refine blk_drew ?_ | refine blk_alloc ?_ _)); refine blk_far ?_ NB280_279.out _; (with_reducible repeat (first | refine blk_drewN ?_ _ | refine blk_drew ?_ | refine blk_alloc ?_ _)); refine blk_far ?_ NB280_279.out _; (with_reducible repeat (first | refine blk_drewN ?_ _ | refine blk_drew ?_ | refine blk_alloc ?_ _)); exact BK280.out⟩
      have n4_ : Aside0 (Below w.heap.size w ((((((((((((((((w9.setCell ⟨gb279, 0, none⟩ (.int .i64 t259)).setCell ⟨gb279, 1, none⟩ (.int .i64 t260)).setCell ⟨gb279, 2, none⟩ (.int .i64 t261)).setCell ⟨gb279, 3, none⟩ (.int .i64 t262)).setCell ⟨gb279, 4, none⟩ (.int .i64 t263)).setCell ⟨gb279, 5, none⟩ (.int .i64 t264)).setCell ⟨gb279, 6, none⟩ (.int .i64 t265)).setCell ⟨gb279, 7, none⟩ (.slice Ao12 t266.length co12)).setCell ⟨gb279, 8, none⟩ (.slice Ao13 t269.length co13)).setCell ⟨gb280, 0, none⟩ (.int .i64 t272)).setCell ⟨gb280, 1, none⟩ (.int .i64 t273)).setCell ⟨gb280, 2, none⟩ (.int .i64 t274)).setCell ⟨gb280, 3, none⟩ (.int .i64 t275)).setCell ⟨gb280, 4, none⟩ (.int .i64 t276)).setCell ⟨gb280, 5, none⟩ (.int .i64 t277)).setCell ⟨gb280, 6, none⟩ (.int .i64 t278))) := ⟨by repeat (first | (with_reducible first | exact HB.out | apply below_alloc | apply pw_below_drewN | apply below_drew1 | refine below_set ?_ GE279.out | refine below_set ?_ GE280.out) | exact HB.out)⟩
      (try clear HO268)
      (try clear HO271)
      (try clear BK279)
      (try clear BK280)
      (try clear HB)
      generalize ((((((((((((((((w9.setCell ⟨gb279, 0, none⟩ (.int .i64 t259)).setCell ⟨gb279, 1, none⟩ (.int .i64 t260)).setCell ⟨gb279, 2, none⟩ (.int .i64 t261)).setCell ⟨gb279, 3, none⟩ (.int .i64 t262)).setCell ⟨gb279, 4, none⟩ (.int .i64 t263)).setCell ⟨gb279, 5, none⟩ (.int .i64 t264)).setCell ⟨gb279, 6, none⟩ (.int .i64 t265)).setCell ⟨gb279, 7, none⟩ (.slice Ao12 t266.length co12)).setCell ⟨gb279, 8, none⟩ (.slice Ao13 t269.length co13)).setCell ⟨gb280, 0, none⟩ (.int .i64 t272)).setCell ⟨gb280, 1, none⟩ (.int .i64 t273)).setCell ⟨gb280, 2, none⟩ (.int .i64 t274)).setCell ⟨gb280, 3, none⟩ (.int .i64 t275)).setCell ⟨gb280, 4, none⟩ (.int .i64 t276)).setCell ⟨gb280, 5, none⟩ (.int .i64 t277)).setCell ⟨gb280, 6, none⟩ (.int .i64 t278)) = w15 at n0_ n1_ n2_ n3_ n4_ ⊢
      have HO268 := n0_
      have HO271 := n1_
      have BK279 := n2_
      have BK280 := n3_
      have HB := n4_
      clear n0_ n1_ n2_ n3_ n4_
      have n0_ := Aside0.mk (Kd.R_drew HO268.out)
      have n1_ := Aside0.mk (Kd.R_drew HO271.out)
      have n2_ := Aside0.mk (blk_drew BK279.out)
      have n3_ := Aside0.mk (blk_drew BK280.out)
      have n4_ := Aside0.mk (below_drew1 HB.out)
      clear HO268
      clear HO271
      clear BK279
      clear BK280
      clear HB
      have HO268 := n0_
      have HO271 := n1_
      have BK279 := n2_
      have BK280 := n3_
      have HB := n4_
      clear n0_ n1_ n2_ n3_ n4_
      refine start_ (n := 11) (S := fun w' => w'.cell? ⟨gb279, 0, none⟩ = some (.int .i64 t259) ∧ w'.cell? ⟨gb279, 1, none⟩ = some (.int .i64 t260) ∧ w'.cell? ⟨gb279, 2, none⟩ = some (.int .i64 t261) ∧ w'.cell? ⟨gb279, 3, none⟩ = some (.int .i64 t262) ∧ w'.cell? ⟨gb279, 4, none⟩ = some (.int .i64 t263) ∧ w'.cell? ⟨gb279, 5, none⟩ = some (.int .i64 t264) ∧ w'.cell? ⟨gb279, 6, none⟩ = some (.int .i64 t265) ∧ w'.cell? ⟨gb279, 7, none⟩ = some (.slice Ao12 t266.length co12) ∧ w'.cell? ⟨gb279, 8, none⟩ = some (.slice Ao13 t269.length co13) ∧ w'.cell? ⟨gb280, 0, none⟩ = some (.int .i64 t272) ∧ w'.cell? ⟨gb280, 1, none⟩ = some (.int .i64 t273) ∧ w'.cell? ⟨gb280, 2, none⟩ = some (.int .i64 t274) ∧ w'.cell? ⟨gb280, 3, none⟩ = some (.int .i64 t275) ∧ w'.cell? ⟨gb280, 4, none⟩ = some (.int .i64 t276) ∧ w'.cell? ⟨gb280, 5, none⟩ = some (.int .i64 t277) ∧ w'.cell? ⟨gb280, 6, none⟩ = some (.int .i64 t278)) (ds := []) #[false, false, false, false, false, false, false, false, false, false, false] (by kernel_rfl) rfl rfl ⟨(blk_cell BK279.out 0).trans rfl, (blk_cell BK279.out 1).trans rfl, (blk_cell BK279.out 2).trans rfl, (blk_cell BK279.out 3).trans rfl, (blk_cell BK279.out 4).trans rfl, (blk_cell BK279.out 5).trans rfl, (blk_cell BK279.out 6).trans rfl, (blk_cell BK279.out 7).trans rfl, (blk_cell BK279.out 8).trans rfl, (blk_cell BK280.out 0).trans rfl, (blk_cell BK280.out 1).trans rfl, (blk_cell BK280.out 2).trans rfl, (blk_cell BK280.out 3).trans rfl, (blk_cell BK280.out 4).trans rfl, (blk_cell BK280.out 5).trans rfl, (blk_cell BK280.out 6).trans rfl⟩ (fun hHeld => ?_); refine with_tabW isobathlaw03_Works.tab2 isobathlaw03_Works.bits2 (fun HT_ HW_ => ?_)
      generalize w15.drew = w16 at HO268 HO271 BK279 BK280 HB hHeld ⊢
      refine pure_ (i := 3) (N := some 15) (v := ?_) (a' := ?_) #[false, false, false, true, false, false, false, false, false, false, false] rfl rfl (any_of HT_.out (by kernel_rfl)) (fun _ _ _ h => h) (Or.inl ⟨by rfl, ?_⟩) ?_ ?_
      rotate_left
      · intro w'
        go_simp
        with_reducible rfl
      rotate_left
      · simp only [Act.put, List.setIfInBounds_toArray, List.set_cons_zero, List.set_cons_succ, i64_w, i32_w]
        rfl
      refine take_ (i := 0) (N := some 12) (v := ?_) (a' := ?_) #[true, false, false, true, false, false, false, false, false, false, false] rfl rfl (take_ofW HT_.out HW_.out (by kernel_rfl)) (fun _ _ _ h => h) (Or.inl ⟨by rfl, ?_⟩) hHeld ?_ ?_
      rotate_left
      · rintro w' ⟨s0, s1, s2, s3, s4, s5, s6, s7, s8, s9, s10, s11, s12, s13, s14, s15⟩
        go_simp
        with_reducible rfl
      rotate_left
      · simp only [Act.put, List.setIfInBounds_toArray, List.set_cons_zero, List.set_cons_succ, i64_w, i32_w]
        rfl
      refine take_ (i := 1) (N := some 13) (v := ?_) (a' := ?_) #[true, true, false, true, false, false, false, false, false, false, false] rfl rfl (take_ofW HT_.out HW_.out (by kernel_rfl)) (fun _ _ _ h => h) (Or.inl ⟨by rfl, ?_⟩) hHeld ?_ ?_
      rotate_left
      · rintro w' ⟨s0, s1, s2, s3, s4, s5, s6, s7, s8, s9, s10, s11, s12, s13, s14, s15⟩
        go_simp
        with_reducible rfl
      rotate_left
      · simp only [Act.put, List.setIfInBounds_toArray, List.set_cons_zero, List.set_cons_succ, i64_w, i32_w]
        rfl
      refine join_ (σ := Nat) 2 #[true, true, true, true, true, true, true, true, true, false, false] (fun s_ => [(14, .agg #[.int .i64 t281, .int .i64 t282, .int .i64 t283, .int .i64 t284]), (16, .tuple #[.agg #[.int .i64 t285, .int .i64 t286, .int .i64 t287, .int .i64 t288], .int .i64 t289]), (3, .pointer (some ⟨s_, 0, none⟩)), (11, .tuple #[.agg #[.int .i64 t285, .int .i64 t286, .int .i64 t287, .int .i64 t288], .int .i64 t289]), (17, .agg #[.int .i64 t285, .int .i64 t286, .int .i64 t287, .int .i64 t288]), (18, .int .i64 t289)]) (fun s_ w' => (w'.cell? ⟨gb279, 0, none⟩ = some (.int .i64 t259) ∧ w'.cell? ⟨gb279, 1, none⟩ = some (.int .i64 t260) ∧ w'.cell? ⟨gb279, 2, none⟩ = some (.int .i64 t261) ∧ w'.cell? ⟨gb279, 3, none⟩ = some (.int .i64 t262) ∧ w'.cell? ⟨gb279, 4, none⟩ = some (.int .i64 t263) ∧ w'.cell? ⟨gb279, 5, none⟩ = some (.int .i64 t264) ∧ w'.cell? ⟨gb279, 6, none⟩ = some (.int .i64 t265) ∧ w'.cell? ⟨gb279, 7, none⟩ = some (.slice Ao12 t266.length co12) ∧ w'.cell? ⟨gb279, 8, none⟩ = some (.slice Ao13 t269.length co13) ∧ w'.cell? ⟨gb280, 0, none⟩ = some (.int .i64 t272) ∧ w'.cell? ⟨gb280, 1, none⟩ = some (.int .i64 t273) ∧ w'.cell? ⟨gb280, 2, none⟩ = some (.int .i64 t274) ∧ w'.cell? ⟨gb280, 3, none⟩ = some (.int .i64 t275) ∧ w'.cell? ⟨gb280, 4, none⟩ = some (.int .i64 t276) ∧ w'.cell? ⟨gb280, 5, none⟩ = some (.int .i64 t277) ∧ w'.cell? ⟨gb280, 6, none⟩ = some (.int .i64 t278)) ∧ (Kd.R Kd.bool 4 w' w.heap.size (fun _ => True) (.slice Ao12 t266.length co12) t266) ∧ (Kd.R k40 40 w' w.heap.size (fun _ => True) (.slice Ao13 t269.length co13) t269) ∧ (w'.heap[gb279]? = some (.cells #[.int .i64 t259, .int .i64 t260, .int .i64 t261, .int .i64 t262, .int .i64 t263, .int .i64 t264, .int .i64 t265, .slice Ao12 t266.length co12, .slice Ao13 t269.length co13] 25 (0, 0))) ∧ (w'.heap[gb280]? = some (.cells #[.int .i64 t272, .int .i64 t273, .int .i64 t274, .int .i64 t275, .int .i64 t276, .int .i64 t277, .int .i64 t278] 29 (0, 0))) ∧ (w'.heap[s_]? = some (.cells #[.int .i64 0, .int .i64 0, .int .i64 0, .int .i64 0] 31 (0, 0))) ∧ (w.heap.size ≤ s_) ∧ (w.heap.size ≤ s_) ∧ (gb279 ≠ s_) ∧ (s_ ≠ gb279) ∧ (gb280 ≠ s_) ∧ (s_ ≠ gb280) ∧ (Below w.heap.size w w')) ?_ ?_
      rotate_left
      · intro hCont
        refine two_ (i := 2) (j := 8) (Ni := some 14) (Nj := some 3) #[true, true, true, true, false, false, false, false, false, false, false] #[true, true, false, true, false, false, false, false, true, false, false] rfl rfl rfl rfl (two_of HT_.out (by kernel_rfl)) (by decide) (by decide) (fun K hK => ?_) (fun K hK => ?_)
        · skip
          refine goes_ Try.func62 (by kernel_rfl) rfl #[.int .i64 2000, .int .i64 2000] (by rfl) rfl rfl (by (try simp only [List.map_toArray, List.map_cons, List.map_nil]); first | done | rfl | (simp only [List.length_drop, List.length_take]; rfl)) ?_
          with_reducible refine (isobathlaw03_point.calls 2000 2000 t281 t282 t283 t284 _ A2.out).mono ?_
          rintro e w17 ⟨rfl, hb⟩
          refine ⟨_, rfl, ?_⟩
          have n0_ := Aside0.mk (Kd.R_below (by (with_reducible repeat (first | apply Kd.R_alloc | apply Kd.R_drewN | apply Kd.R_drew)); exact HO268.out) hb)
          have n1_ := Aside0.mk (Kd.R_below (by (with_reducible repeat (first | apply Kd.R_alloc | apply Kd.R_drewN | apply Kd.R_drew)); exact HO271.out) hb)
          have n2_ := Aside0.mk (blk_below (g := gb279) (o := .cells #[.int .i64 t259, .int .i64 t260, .int .i64 t261, .int .i64 t262, .int .i64 t263, .int .i64 t264, .int .i64 t265, .slice Ao12 t266.length co12, .slice Ao13 t269.length co13] 25 (0, 0)) (by (with_reducible repeat (first | refine blk_drewN ?_ _ | refine blk_drew ?_ | refine blk_alloc ?_ _)); exact BK279.out) hb)
          have n3_ := Aside0.mk (blk_below (g := gb280) (o := .cells #[.int .i64 t272, .int .i64 t273, .int .i64 t274, .int .i64 t275, .int .i64 t276, .int .i64 t277, .int .i64 t278] 29 (0, 0)) (by (with_reducible repeat (first | refine blk_drewN ?_ _ | refine blk_drew ?_ | refine blk_alloc ?_ _)); exact BK280.out) hb)
          have n4_ := Aside0.mk (below_step (by repeat (first | (with_reducible first | exact HB.out | apply below_alloc | apply pw_below_drewN | apply below_drew1 | refine below_set ?_ GE279.out | refine below_set ?_ GE280.out) | exact HB.out)) hb)
          clear HO268
          clear HO271
          clear BK279
          clear BK280
          clear HB
          have HO268 := n0_
          have HO271 := n1_
          have BK279 := n2_
          have BK280 := n3_
          have HB := n4_
          clear n0_ n1_ n2_ n3_ n4_
          (try clear hb)
          (try clear hb2)
          (try clear hk)
          (try clear hi)
          refine hK.out _ _ ⟨(blk_cell BK279.out 0).trans rfl, (blk_cell BK279.out 1).trans rfl, (blk_cell BK279.out 2).trans rfl, (blk_cell BK279.out 3).trans rfl, (blk_cell BK279.out 4).trans rfl, (blk_cell BK279.out 5).trans rfl, (blk_cell BK279.out 6).trans rfl, (blk_cell BK279.out 7).trans rfl, (blk_cell BK279.out 8).trans rfl, (blk_cell BK280.out 0).trans rfl, (blk_cell BK280.out 1).trans rfl, (blk_cell BK280.out 2).trans rfl, (blk_cell BK280.out 3).trans rfl, (blk_cell BK280.out 4).trans rfl, (blk_cell BK280.out 5).trans rfl, (blk_cell BK280.out 6).trans rfl⟩ (fun hHeld => ?_)
          clear hK K
          refine norm_ (a' := ?_) ?_ ?_
          rotate_left
          · show Act.put _ (some 14) _ = _
            simp only [Act.put, List.setIfInBounds_toArray, List.set_cons_zero, List.set_cons_succ, i64_w, i32_w]
            rfl
          refine two_ (i := 4) (j := 8) (Ni := some 16) (Nj := some 3) #[true, true, true, true, true, false, false, false, false, false, false] #[true, true, true, true, false, false, false, false, true, false, false] rfl rfl rfl rfl (two_of HT_.out (by kernel_rfl)) (by decide) (by decide) (fun K hK => ?_) (fun K hK => ?_)
          · skip
            refine goes_ Try.func20 (by kernel_rfl) rfl #[.agg #[.int .i64 t259, .int .i64 t260, .int .i64 t261, .int .i64 t262, .int .i64 t263, .int .i64 t264, .int .i64 t265, .slice Ao12 t266.length co12, .slice Ao13 t269.length co13], .agg #[.int .i64 t272, .int .i64 t273, .int .i64 t274, .int .i64 t275, .int .i64 t276, .int .i64 t277, .int .i64 t278], .agg #[.int .i64 t281, .int .i64 t282, .int .i64 t283, .int .i64 t284], .int .i64 0, .agg #[.int .i64 2, .int .i64 0]] (by rfl) rfl rfl (by (try simp only [List.map_toArray, List.map_cons, List.map_nil]); first | done | rfl | (simp only [List.length_drop, List.length_take]; rfl)) ?_
            with_reducible refine (glider_Dive.calls t259 t260 t261 t262 t263 t264 t265 _ _ t266 _ _ t269 t272 t273 t274 t275 t276 t277 t278 t281 t282 t283 t284 0 2 0 t285 t286 t287 t288 t289 _ ?side1 ?side2 ?side3 ?side4 A3.out).mono ?_
            (case side1 => repeat (first | exact (Kd.R_reads' HO268.out).2.2 | (with_reducible refine Kd.C_alloc ?_ _) | (with_reducible refine Kd.C_drewN ?_ _) | (with_reducible refine Kd.C_drew ?_)))
            (case side2 => exact (Kd.R_reads' HO268.out).2.1)
            (case side3 => repeat (first | exact (Kd.R_reads' HO271.out).2.2 | (with_reducible refine Kd.C_alloc ?_ _) | (with_reducible refine Kd.C_drewN ?_ _) | (with_reducible refine Kd.C_drew ?_)))
            (case side4 => exact (Kd.R_reads' HO271.out).2.1)
            rintro e w18 ⟨rfl, hb⟩
            refine ⟨_, rfl, ?_⟩
            have n0_ := Aside0.mk (Kd.R_below (by (with_reducible repeat (first | apply Kd.R_alloc | apply Kd.R_drewN | apply Kd.R_drew)); exact HO268.out) hb)
            have n1_ := Aside0.mk (Kd.R_below (by (with_reducible repeat (first | apply Kd.R_alloc | apply Kd.R_drewN | apply Kd.R_drew)); exact HO271.out) hb)
            have n2_ := Aside0.mk (blk_below (g := gb279) (o := .cells #[.int .i64 t259, .int .i64 t260, .int .i64 t261, .int .i64 t262, .int .i64 t263, .int .i64 t264, .int .i64 t265, .slice Ao12 t266.length co12, .slice Ao13 t269.length co13] 25 (0, 0)) (by (with_reducible repeat (first | refine blk_drewN ?_ _ | refine blk_drew ?_ | refine blk_alloc ?_ _)); exact BK279.out) hb)
            have n3_ := Aside0.mk (blk_below (g := gb280) (o := .cells #[.int .i64 t272, .int .i64 t273, .int .i64 t274, .int .i64 t275, .int .i64 t276, .int .i64 t277, .int .i64 t278] 29 (0, 0)) (by (with_reducible repeat (first | refine blk_drewN ?_ _ | refine blk_drew ?_ | refine blk_alloc ?_ _)); exact BK280.out) hb)
            have n4_ := Aside0.mk (below_step (by repeat (first | (with_reducible first | exact HB.out | apply below_alloc | apply pw_below_drewN | apply below_drew1 | refine below_set ?_ GE279.out | refine below_set ?_ GE280.out) | exact HB.out)) hb)
            clear HO268
            clear HO271
            clear BK279
            clear BK280
            clear HB
            have HO268 := n0_
            have HO271 := n1_
            have BK279 := n2_
            have BK280 := n3_
            have HB := n4_
            clear n0_ n1_ n2_ n3_ n4_
            (try clear hb)
            (try clear hb2)
            (try clear hk)
            (try clear hi)
            refine hK.out _ _ ⟨(blk_cell BK279.out 0).trans rfl, (blk_cell BK279.out 1).trans rfl, (blk_cell BK279.out 2).trans rfl, (blk_cell BK279.out 3).trans rfl, (blk_cell BK279.out 4).trans rfl, (blk_cell BK279.out 5).trans rfl, (blk_cell BK279.out 6).trans rfl, (blk_cell BK279.out 7).trans rfl, (blk_cell BK279.out 8).trans rfl, (blk_cell BK280.out 0).trans rfl, (blk_cell BK280.out 1).trans rfl, (blk_cell BK280.out 2).trans rfl, (blk_cell BK280.out 3).trans rfl, (blk_cell BK280.out 4).trans rfl, (blk_cell BK280.out 5).trans rfl, (blk_cell BK280.out 6).trans rfl⟩ (fun hHeld => ?_)
            clear hK K
            refine norm_ (a' := ?_) ?_ ?_
            rotate_left
            · show Act.put _ (some 16) _ = _
              simp only [Act.put, List.setIfInBounds_toArray, List.set_cons_zero, List.set_cons_succ, i64_w, i32_w]
              rfl
            refine pure_ (i := 5) (N := some 11) (v := ?_) (a' := ?_) #[true, true, true, true, true, true, false, false, false, false, false] rfl rfl (any_of HT_.out (by kernel_rfl)) (fun _ _ _ h => h) (Or.inl ⟨by rfl, ?_⟩) ?_ ?_
            rotate_left
            · intro w'
              go_simp
              with_reducible rfl
            rotate_left
            · simp only [Act.put, List.setIfInBounds_toArray, List.set_cons_zero, List.set_cons_succ, i64_w, i32_w]
              rfl
            refine pure_ (i := 6) (N := some 17) (v := ?_) (a' := ?_) #[true, true, true, true, true, true, true, false, false, false, false] rfl rfl (any_of HT_.out (by kernel_rfl)) (fun _ _ _ h => h) (Or.inl ⟨by rfl, ?_⟩) ?_ ?_
            rotate_left
            · intro w'
              go_simp
              with_reducible rfl
            rotate_left
            · simp only [Act.put, List.setIfInBounds_toArray, List.set_cons_zero, List.set_cons_succ, i64_w, i32_w]
              rfl
            refine pure_ (i := 7) (N := some 18) (v := ?_) (a' := ?_) #[true, true, true, true, true, true, true, true, false, false, false] rfl rfl (any_of HT_.out (by kernel_rfl)) (fun _ _ _ h => h) (Or.inl ⟨by rfl, ?_⟩) ?_ ?_
            rotate_left
            · intro w'
              go_simp
              with_reducible rfl
            rotate_left
            · simp only [Act.put, List.setIfInBounds_toArray, List.set_cons_zero, List.set_cons_succ, i64_w, i32_w]
              rfl
            refine one_ (i := 8) (N := some 3) #[true, true, true, true, true, true, true, true, true, false, false] rfl rfl (one_of HT_.out (by kernel_rfl)) (by decide) (fun K hK => ?_)
            refine box_step ?hg (N := 3) ?hd (cs := #[.int .i64 0, .int .i64 0, .int .i64 0, .int .i64 0]) (t := 31) ?hr ?_; (case hd => rfl); (case hg => rfl); (case hr => first | (go_simp; done) | (go_simp; rfl))
            intro gb290 hg w19 hbox hb
            have n0_ := Aside0.mk (Kd.R_below (by (with_reducible repeat (first | apply Kd.R_alloc | apply Kd.R_drewN | apply Kd.R_drew)); exact HO268.out) hb)
            have n1_ := Aside0.mk (Kd.R_below (by (with_reducible repeat (first | apply Kd.R_alloc | apply Kd.R_drewN | apply Kd.R_drew)); exact HO271.out) hb)
            have n2_ := Aside0.mk (blk_below (g := gb279) (o := .cells #[.int .i64 t259, .int .i64 t260, .int .i64 t261, .int .i64 t262, .int .i64 t263, .int .i64 t264, .int .i64 t265, .slice Ao12 t266.length co12, .slice Ao13 t269.length co13] 25 (0, 0)) (by (with_reducible repeat (first | refine blk_drewN ?_ _ | refine blk_drew ?_ | refine blk_alloc ?_ _)); exact BK279.out) hb)
            have n3_ := Aside0.mk (blk_below (g := gb280) (o := .cells #[.int .i64 t272, .int .i64 t273, .int .i64 t274, .int .i64 t275, .int .i64 t276, .int .i64 t277, .int .i64 t278] 29 (0, 0)) (by (with_reducible repeat (first | refine blk_drewN ?_ _ | refine blk_drew ?_ | refine blk_alloc ?_ _)); exact BK280.out) hb)
            have n4_ := Aside0.mk (below_step (by repeat (first | (with_reducible first | exact HB.out | apply below_alloc | apply pw_below_drewN | apply below_drew1 | refine below_set ?_ GE279.out | refine below_set ?_ GE280.out) | exact HB.out)) hb)
            have n5_ := Aside0.mk (hbox)
            have n6_ := Aside0.mk ((by rw [hg]; exact (below_size (by repeat (first | (with_reducible first | exact HB.out | apply below_alloc | apply pw_below_drewN | apply below_drew1 | refine below_set ?_ GE279.out | refine below_set ?_ GE280.out) | exact HB.out))) : w.heap.size ≤ gb290))
            have n7_ := Aside0.mk ((by rw [hg]; exact (below_size (by repeat (first | (with_reducible first | exact HB.out | apply below_alloc | apply pw_below_drewN | apply below_drew1 | refine below_set ?_ GE279.out | refine below_set ?_ GE280.out) | exact HB.out))) : w.heap.size ≤ gb290))
            have n8_ := Aside0.mk ((by rw [hg]; exact Nat.ne_of_lt (blk_lt (g := gb279) (o := .cells #[.int .i64 t259, .int .i64 t260, .int .i64 t261, .int .i64 t262, .int .i64 t263, .int .i64 t264, .int .i64 t265, .slice Ao12 t266.length co12, .slice Ao13 t269.length co13] 25 (0, 0)) (by (with_reducible repeat (first | refine blk_drewN ?_ _ | refine blk_drew ?_ | refine blk_alloc ?_ _)); exact BK279.out)) : gb279 ≠ gb290))
            have n9_ := Aside0.mk ((by rw [hg]; exact Nat.ne_of_gt (blk_lt (g := gb279) (o := .cells #[.int .i64 t259, .int .i64 t260, .int .i64 t261, .int .i64 t262, .int .i64 t263, .int .i64 t264, .int .i64 t265, .slice Ao12 t266.length co12, .slice Ao13 t269.length co13] 25 (0, 0)) (by (with_reducible repeat (first | refine blk_drewN ?_ _ | refine blk_drew ?_ | refine blk_alloc ?_ _)); exact BK279.out)) : gb290 ≠ gb279))
            have n10_ := Aside0.mk ((by rw [hg]; exact Nat.ne_of_lt (blk_lt (g := gb280) (o := .cells #[.int .i64 t272, .int .i64 t273, .int .i64 t274, .int .i64 t275, .int .i64 t276, .int .i64 t277, .int .i64 t278] 29 (0, 0)) (by (with_reducible repeat (first | refine blk_drewN ?_ _ | refine blk_drew ?_ | refine blk_alloc ?_ _)); exact BK280.out)) : gb280 ≠ gb290))
            have n11_ := Aside0.mk ((by rw [hg]; exact Nat.ne_of_gt (blk_lt (g := gb280) (o := .cells #[.int .i64 t272, .int .i64 t273, .int .i64 t274, .int .i64 t275, .int .i64 t276, .int .i64 t277, .int .i64 t278] 29 (0, 0)) (by (with_reducible repeat (first | refine blk_drewN ?_ _ | refine blk_drew ?_ | refine blk_alloc ?_ _)); exact BK280.out)) : gb290 ≠ gb280))
            clear HO268
            clear HO271
            clear BK279
            clear BK280
            clear HB
            have HO268 := n0_
            have HO271 := n1_
            have BK279 := n2_
            have BK280 := n3_
            have HB := n4_
            have BK290 := n5_
            have GW290 := n6_
            have GE290 := n7_
            have NB279_290 := n8_
            have NB290_279 := n9_
            have NB280_290 := n10_
            have NB290_280 := n11_
            clear n0_ n1_ n2_ n3_ n4_ n5_ n6_ n7_ n8_ n9_ n10_ n11_
            clear hb hbox hg
            refine hK.out _ _ ⟨(blk_cell BK279.out 0).trans rfl, (blk_cell BK279.out 1).trans rfl, (blk_cell BK279.out 2).trans rfl, (blk_cell BK279.out 3).trans rfl, (blk_cell BK279.out 4).trans rfl, (blk_cell BK279.out 5).trans rfl, (blk_cell BK279.out 6).trans rfl, (blk_cell BK279.out 7).trans rfl, (blk_cell BK279.out 8).trans rfl, (blk_cell BK280.out 0).trans rfl, (blk_cell BK280.out 1).trans rfl, (blk_cell BK280.out 2).trans rfl, (blk_cell BK280.out 3).trans rfl, (blk_cell BK280.out 4).trans rfl, (blk_cell BK280.out 5).trans rfl, (blk_cell BK280.out 6).trans rfl⟩ (fun hHeld => ?_)
            clear hK K
            refine norm_ (a' := ?_) ?_ ?_
            rotate_left
            · show Act.put _ (some 3) _ = _
              simp only [Act.put, List.setIfInBounds_toArray, List.set_cons_zero, List.set_cons_succ, i64_w, i32_w]
              rfl
            exact norm_ (by simp only [putAll, Act.put, List.setIfInBounds_toArray, List.set_cons_zero, List.set_cons_succ]) (hCont (gb290) _ ⟨hHeld, (by (with_reducible repeat (first | apply Kd.R_alloc | apply Kd.R_drewN | apply Kd.R_drew)); exact HO268.out), (by (with_reducible repeat (first | apply Kd.R_alloc | apply Kd.R_drewN | apply Kd.R_drew)); exact HO271.out), (by (with_reducible repeat (first | refine blk_drewN ?_ _ | refine blk_drew ?_ | refine blk_alloc ?_ _)); exact BK279.out), (by (with_reducible repeat (first | refine blk_drewN ?_ _ | refine blk_drew ?_ | refine blk_alloc ?_ _)); exact BK280.out), (by (with_reducible repeat (first | refine blk_drewN ?_ _ | refine blk_drew ?_ | refine blk_alloc ?_ _)); exact BK290.out), GW290.out, GE290.out, NB279_290.out, NB290_279.out, NB280_290.out, NB290_280.out, (by repeat (first | (with_reducible first | exact HB.out | apply below_alloc | apply pw_below_drewN | apply below_drew1 | refine below_set ?_ GE279.out | refine below_set ?_ GE280.out | refine below_set ?_ GE290.out) | exact HB.out))⟩)
          · skip
            refine box_step ?hg (N := 3) ?hd (cs := #[.int .i64 0, .int .i64 0, .int .i64 0, .int .i64 0]) (t := 31) ?hr ?_; (case hd => rfl); (case hg => rfl); (case hr => first | (go_simp; done) | (go_simp; rfl))
            intro gb290 hg w18 hbox hb
            have n0_ := Aside0.mk (Kd.R_below (by (with_reducible repeat (first | apply Kd.R_alloc | apply Kd.R_drewN | apply Kd.R_drew)); exact HO268.out) hb)
            have n1_ := Aside0.mk (Kd.R_below (by (with_reducible repeat (first | apply Kd.R_alloc | apply Kd.R_drewN | apply Kd.R_drew)); exact HO271.out) hb)
            have n2_ := Aside0.mk (blk_below (g := gb279) (o := .cells #[.int .i64 t259, .int .i64 t260, .int .i64 t261, .int .i64 t262, .int .i64 t263, .int .i64 t264, .int .i64 t265, .slice Ao12 t266.length co12, .slice Ao13 t269.length co13] 25 (0, 0)) (by (with_reducible repeat (first | refine blk_drewN ?_ _ | refine blk_drew ?_ | refine blk_alloc ?_ _)); exact BK279.out) hb)
            have n3_ := Aside0.mk (blk_below (g := gb280) (o := .cells #[.int .i64 t272, .int .i64 t273, .int .i64 t274, .int .i64 t275, .int .i64 t276, .int .i64 t277, .int .i64 t278] 29 (0, 0)) (by (with_reducible repeat (first | refine blk_drewN ?_ _ | refine blk_drew ?_ | refine blk_alloc ?_ _)); exact BK280.out) hb)
            have n4_ := Aside0.mk (below_step (by repeat (first | (with_reducible first | exact HB.out | apply below_alloc | apply pw_below_drewN | apply below_drew1 | refine below_set ?_ GE279.out | refine below_set ?_ GE280.out) | exact HB.out)) hb)
            have n5_ := Aside0.mk (hbox)
            have n6_ := Aside0.mk ((by rw [hg]; exact (below_size (by repeat (first | (with_reducible first | exact HB.out | apply below_alloc | apply pw_below_drewN | apply below_drew1 | refine below_set ?_ GE279.out | refine below_set ?_ GE280.out) | exact HB.out))) : w.heap.size ≤ gb290))
            have n7_ := Aside0.mk ((by rw [hg]; exact (below_size (by repeat (first | (with_reducible first | exact HB.out | apply below_alloc | apply pw_below_drewN | apply below_drew1 | refine below_set ?_ GE279.out | refine below_set ?_ GE280.out) | exact HB.out))) : w.heap.size ≤ gb290))
            have n8_ := Aside0.mk ((by rw [hg]; exact Nat.ne_of_lt (blk_lt (g := gb279) (o := .cells #[.int .i64 t259, .int .i64 t260, .int .i64 t261, .int .i64 t262, .int .i64 t263, .int .i64 t264, .int .i64 t265, .slice Ao12 t266.length co12, .slice Ao13 t269.length co13] 25 (0, 0)) (by (with_reducible repeat (first | refine blk_drewN ?_ _ | refine blk_drew ?_ | refine blk_alloc ?_ _)); exact BK279.out)) : gb279 ≠ gb290))
            have n9_ := Aside0.mk ((by rw [hg]; exact Nat.ne_of_gt (blk_lt (g := gb279) (o := .cells #[.int .i64 t259, .int .i64 t260, .int .i64 t261, .int .i64 t262, .int .i64 t263, .int .i64 t264, .int .i64 t265, .slice Ao12 t266.length co12, .slice Ao13 t269.length co13] 25 (0, 0)) (by (with_reducible repeat (first | refine blk_drewN ?_ _ | refine blk_drew ?_ | refine blk_alloc ?_ _)); exact BK279.out)) : gb290 ≠ gb279))
            have n10_ := Aside0.mk ((by rw [hg]; exact Nat.ne_of_lt (blk_lt (g := gb280) (o := .cells #[.int .i64 t272, .int .i64 t273, .int .i64 t274, .int .i64 t275, .int .i64 t276, .int .i64 t277, .int .i64 t278] 29 (0, 0)) (by (with_reducible repeat (first | refine blk_drewN ?_ _ | refine blk_drew ?_ | refine blk_alloc ?_ _)); exact BK280.out)) : gb280 ≠ gb290))
            have n11_ := Aside0.mk ((by rw [hg]; exact Nat.ne_of_gt (blk_lt (g := gb280) (o := .cells #[.int .i64 t272, .int .i64 t273, .int .i64 t274, .int .i64 t275, .int .i64 t276, .int .i64 t277, .int .i64 t278] 29 (0, 0)) (by (with_reducible repeat (first | refine blk_drewN ?_ _ | refine blk_drew ?_ | refine blk_alloc ?_ _)); exact BK280.out)) : gb290 ≠ gb280))
            clear HO268
            clear HO271
            clear BK279
            clear BK280
            clear HB
            have HO268 := n0_
            have HO271 := n1_
            have BK279 := n2_
            have BK280 := n3_
            have HB := n4_
            have BK290 := n5_
            have GW290 := n6_
            have GE290 := n7_
            have NB279_290 := n8_
            have NB290_279 := n9_
            have NB280_290 := n10_
            have NB290_280 := n11_
            clear n0_ n1_ n2_ n3_ n4_ n5_ n6_ n7_ n8_ n9_ n10_ n11_
            clear hb hbox hg
            refine hK.out _ _ ⟨(blk_cell BK279.out 0).trans rfl, (blk_cell BK279.out 1).trans rfl, (blk_cell BK279.out 2).trans rfl, (blk_cell BK279.out 3).trans rfl, (blk_cell BK279.out 4).trans rfl, (blk_cell BK279.out 5).trans rfl, (blk_cell BK279.out 6).trans rfl, (blk_cell BK279.out 7).trans rfl, (blk_cell BK279.out 8).trans rfl, (blk_cell BK280.out 0).trans rfl, (blk_cell BK280.out 1).trans rfl, (blk_cell BK280.out 2).trans rfl, (blk_cell BK280.out 3).trans rfl, (blk_cell BK280.out 4).trans rfl, (blk_cell BK280.out 5).trans rfl, (blk_cell BK280.out 6).trans rfl⟩ (fun hHeld => ?_)
            clear hK K
            refine norm_ (a' := ?_) ?_ ?_
            rotate_left
            · show Act.put _ (some 3) _ = _
              simp only [Act.put, List.setIfInBounds_toArray, List.set_cons_zero, List.set_cons_succ, i64_w, i32_w]
              rfl
            refine one_ (i := 4) (N := some 16) #[true, true, true, true, true, false, false, false, true, false, false] rfl rfl (one_of HT_.out (by kernel_rfl)) (by decide) (fun K hK => ?_)
            refine goes_ Try.func20 (by kernel_rfl) rfl #[.agg #[.int .i64 t259, .int .i64 t260, .int .i64 t261, .int .i64 t262, .int .i64 t263, .int .i64 t264, .int .i64 t265, .slice Ao12 t266.length co12, .slice Ao13 t269.length co13], .agg #[.int .i64 t272, .int .i64 t273, .int .i64 t274, .int .i64 t275, .int .i64 t276, .int .i64 t277, .int .i64 t278], .agg #[.int .i64 t281, .int .i64 t282, .int .i64 t283, .int .i64 t284], .int .i64 0, .agg #[.int .i64 2, .int .i64 0]] (by rfl) rfl rfl (by (try simp only [List.map_toArray, List.map_cons, List.map_nil]); first | done | rfl | (simp only [List.length_drop, List.length_take]; rfl)) ?_
            with_reducible refine (glider_Dive.calls t259 t260 t261 t262 t263 t264 t265 _ _ t266 _ _ t269 t272 t273 t274 t275 t276 t277 t278 t281 t282 t283 t284 0 2 0 t285 t286 t287 t288 t289 _ ?side1 ?side2 ?side3 ?side4 A3.out).mono ?_
            (case side1 => repeat (first | exact (Kd.R_reads' HO268.out).2.2 | (with_reducible refine Kd.C_alloc ?_ _) | (with_reducible refine Kd.C_drewN ?_ _) | (with_reducible refine Kd.C_drew ?_)))
            (case side2 => exact (Kd.R_reads' HO268.out).2.1)
            (case side3 => repeat (first | exact (Kd.R_reads' HO271.out).2.2 | (with_reducible refine Kd.C_alloc ?_ _) | (with_reducible refine Kd.C_drewN ?_ _) | (with_reducible refine Kd.C_drew ?_)))
            (case side4 => exact (Kd.R_reads' HO271.out).2.1)
            rintro e w19 ⟨rfl, hb⟩
            refine ⟨_, rfl, ?_⟩
            have n0_ := Aside0.mk (Kd.R_below (by (with_reducible repeat (first | apply Kd.R_alloc | apply Kd.R_drewN | apply Kd.R_drew)); exact HO268.out) hb)
            have n1_ := Aside0.mk (Kd.R_below (by (with_reducible repeat (first | apply Kd.R_alloc | apply Kd.R_drewN | apply Kd.R_drew)); exact HO271.out) hb)
            have n2_ := Aside0.mk (blk_below (g := gb279) (o := .cells #[.int .i64 t259, .int .i64 t260, .int .i64 t261, .int .i64 t262, .int .i64 t263, .int .i64 t264, .int .i64 t265, .slice Ao12 t266.length co12, .slice Ao13 t269.length co13] 25 (0, 0)) (by (with_reducible repeat (first | refine blk_drewN ?_ _ | refine blk_drew ?_ | refine blk_alloc ?_ _)); exact BK279.out) hb)
            have n3_ := Aside0.mk (blk_below (g := gb280) (o := .cells #[.int .i64 t272, .int .i64 t273, .int .i64 t274, .int .i64 t275, .int .i64 t276, .int .i64 t277, .int .i64 t278] 29 (0, 0)) (by (with_reducible repeat (first | refine blk_drewN ?_ _ | refine blk_drew ?_ | refine blk_alloc ?_ _)); exact BK280.out) hb)
            have n4_ := Aside0.mk (blk_below (g := gb290) (o := .cells #[.int .i64 0, .int .i64 0, .int .i64 0, .int .i64 0] 31 (0, 0)) (by (with_reducible repeat (first | refine blk_drewN ?_ _ | refine blk_drew ?_ | refine blk_alloc ?_ _)); exact BK290.out) hb)
            have n5_ := Aside0.mk (below_step (by repeat (first | (with_reducible first | exact HB.out | apply below_alloc | apply pw_below_drewN | apply below_drew1 | refine below_set ?_ GE279.out | refine below_set ?_ GE280.out | refine below_set ?_ GE290.out) | exact HB.out)) hb)
            clear HO268
            clear HO271
            clear BK279
            clear BK280
            clear BK290
            clear HB
            have HO268 := n0_
            have HO271 := n1_
            have BK279 := n2_
            have BK280 := n3_
            have BK290 := n4_
            have HB := n5_
            clear n0_ n1_ n2_ n3_ n4_ n5_
            (try clear hb)
            (try clear hb2)
            (try clear hk)
            (try clear hi)
            refine hK.out _ _ ⟨(blk_cell BK279.out 0).trans rfl, (blk_cell BK279.out 1).trans rfl, (blk_cell BK279.out 2).trans rfl, (blk_cell BK279.out 3).trans rfl, (blk_cell BK279.out 4).trans rfl, (blk_cell BK279.out 5).trans rfl, (blk_cell BK279.out 6).trans rfl, (blk_cell BK279.out 7).trans rfl, (blk_cell BK279.out 8).trans rfl, (blk_cell BK280.out 0).trans rfl, (blk_cell BK280.out 1).trans rfl, (blk_cell BK280.out 2).trans rfl, (blk_cell BK280.out 3).trans rfl, (blk_cell BK280.out 4).trans rfl, (blk_cell BK280.out 5).trans rfl, (blk_cell BK280.out 6).trans rfl⟩ (fun hHeld => ?_)
            clear hK K
            refine norm_ (a' := ?_) ?_ ?_
            rotate_left
            · show Act.put _ (some 16) _ = _
              simp only [Act.put, List.setIfInBounds_toArray, List.set_cons_zero, List.set_cons_succ, i64_w, i32_w]
              rfl
            refine pure_ (i := 5) (N := some 11) (v := ?_) (a' := ?_) #[true, true, true, true, true, true, false, false, true, false, false] rfl rfl (any_of HT_.out (by kernel_rfl)) (fun _ _ _ h => h) (Or.inl ⟨by rfl, ?_⟩) ?_ ?_
            rotate_left
            · intro w'
              go_simp
              with_reducible rfl
            rotate_left
            · simp only [Act.put, List.setIfInBounds_toArray, List.set_cons_zero, List.set_cons_succ, i64_w, i32_w]
              rfl
            refine pure_ (i := 6) (N := some 17) (v := ?_) (a' := ?_) #[true, true, true, true, true, true, true, false, true, false, false] rfl rfl (any_of HT_.out (by kernel_rfl)) (fun _ _ _ h => h) (Or.inl ⟨by rfl, ?_⟩) ?_ ?_
            rotate_left
            · intro w'
              go_simp
              with_reducible rfl
            rotate_left
            · simp only [Act.put, List.setIfInBounds_toArray, List.set_cons_zero, List.set_cons_succ, i64_w, i32_w]
              rfl
            refine pure_ (i := 7) (N := some 18) (v := ?_) (a' := ?_) #[true, true, true, true, true, true, true, true, true, false, false] rfl rfl (any_of HT_.out (by kernel_rfl)) (fun _ _ _ h => h) (Or.inl ⟨by rfl, ?_⟩) ?_ ?_
            rotate_left
            · intro w'
              go_simp
              with_reducible rfl
            rotate_left
            · simp only [Act.put, List.setIfInBounds_toArray, List.set_cons_zero, List.set_cons_succ, i64_w, i32_w]
              rfl
            exact norm_ (by simp only [putAll, Act.put, List.setIfInBounds_toArray, List.set_cons_zero, List.set_cons_succ]) (hCont (gb290) _ ⟨hHeld, (by (with_reducible repeat (first | apply Kd.R_alloc | apply Kd.R_drewN | apply Kd.R_drew)); exact HO268.out), (by (with_reducible repeat (first | apply Kd.R_alloc | apply Kd.R_drewN | apply Kd.R_drew)); exact HO271.out), (by (with_reducible repeat (first | refine blk_drewN ?_ _ | refine blk_drew ?_ | refine blk_alloc ?_ _)); exact BK279.out), (by (with_reducible repeat (first | refine blk_drewN ?_ _ | refine blk_drew ?_ | refine blk_alloc ?_ _)); exact BK280.out), (by (with_reducible repeat (first | refine blk_drewN ?_ _ | refine blk_drew ?_ | refine blk_alloc ?_ _)); exact BK290.out), GW290.out, GE290.out, NB279_290.out, NB290_279.out, NB280_290.out, NB290_280.out, (by repeat (first | (with_reducible first | exact HB.out | apply below_alloc | apply pw_below_drewN | apply below_drew1 | refine below_set ?_ GE279.out | refine below_set ?_ GE280.out | refine below_set ?_ GE290.out) | exact HB.out))⟩)
        · skip
          refine box_step ?hg (N := 3) ?hd (cs := #[.int .i64 0, .int .i64 0, .int .i64 0, .int .i64 0]) (t := 31) ?hr ?_; (case hd => rfl); (case hg => rfl); (case hr => first | (go_simp; done) | (go_simp; rfl))
          intro gb290 hg w17 hbox hb
          have n0_ := Aside0.mk (Kd.R_below (by (with_reducible repeat (first | apply Kd.R_alloc | apply Kd.R_drewN | apply Kd.R_drew)); exact HO268.out) hb)
          have n1_ := Aside0.mk (Kd.R_below (by (with_reducible repeat (first | apply Kd.R_alloc | apply Kd.R_drewN | apply Kd.R_drew)); exact HO271.out) hb)
          have n2_ := Aside0.mk (blk_below (g := gb279) (o := .cells #[.int .i64 t259, .int .i64 t260, .int .i64 t261, .int .i64 t262, .int .i64 t263, .int .i64 t264, .int .i64 t265, .slice Ao12 t266.length co12, .slice Ao13 t269.length co13] 25 (0, 0)) (by (with_reducible repeat (first | refine blk_drewN ?_ _ | refine blk_drew ?_ | refine blk_alloc ?_ _)); exact BK279.out) hb)
          have n3_ := Aside0.mk (blk_below (g := gb280) (o := .cells #[.int .i64 t272, .int .i64 t273, .int .i64 t274, .int .i64 t275, .int .i64 t276, .int .i64 t277, .int .i64 t278] 29 (0, 0)) (by (with_reducible repeat (first | refine blk_drewN ?_ _ | refine blk_drew ?_ | refine blk_alloc ?_ _)); exact BK280.out) hb)
          have n4_ := Aside0.mk (below_step (by repeat (first | (with_reducible first | exact HB.out | apply below_alloc | apply pw_below_drewN | apply below_drew1 | refine below_set ?_ GE279.out | refine below_set ?_ GE280.out) | exact HB.out)) hb)
          have n5_ := Aside0.mk (hbox)
          have n6_ := Aside0.mk ((by rw [hg]; exact (below_size (by repeat (first | (with_reducible first | exact HB.out | apply below_alloc | apply pw_below_drewN | apply below_drew1 | refine below_set ?_ GE279.out | refine below_set ?_ GE280.out) | exact HB.out))) : w.heap.size ≤ gb290))
          have n7_ := Aside0.mk ((by rw [hg]; exact (below_size (by repeat (first | (with_reducible first | exact HB.out | apply below_alloc | apply pw_below_drewN | apply below_drew1 | refine below_set ?_ GE279.out | refine below_set ?_ GE280.out) | exact HB.out))) : w.heap.size ≤ gb290))
          have n8_ := Aside0.mk ((by rw [hg]; exact Nat.ne_of_lt (blk_lt (g := gb279) (o := .cells #[.int .i64 t259, .int .i64 t260, .int .i64 t261, .int .i64 t262, .int .i64 t263, .int .i64 t264, .int .i64 t265, .slice Ao12 t266.length co12, .slice Ao13 t269.length co13] 25 (0, 0)) (by (with_reducible repeat (first | refine blk_drewN ?_ _ | refine blk_drew ?_ | refine blk_alloc ?_ _)); exact BK279.out)) : gb279 ≠ gb290))
          have n9_ := Aside0.mk ((by rw [hg]; exact Nat.ne_of_gt (blk_lt (g := gb279) (o := .cells #[.int .i64 t259, .int .i64 t260, .int .i64 t261, .int .i64 t262, .int .i64 t263, .int .i64 t264, .int .i64 t265, .slice Ao12 t266.length co12, .slice Ao13 t269.length co13] 25 (0, 0)) (by (with_reducible repeat (first | refine blk_drewN ?_ _ | refine blk_drew ?_ | refine blk_alloc ?_ _)); exact BK279.out)) : gb290 ≠ gb279))
          have n10_ := Aside0.mk ((by rw [hg]; exact Nat.ne_of_lt (blk_lt (g := gb280) (o := .cells #[.int .i64 t272, .int .i64 t273, .int .i64 t274, .int .i64 t275, .int .i64 t276, .int .i64 t277, .int .i64 t278] 29 (0, 0)) (by (with_reducible repeat (first | refine blk_drewN ?_ _ | refine blk_drew ?_ | refine blk_alloc ?_ _)); exact BK280.out)) : gb280 ≠ gb290))
          have n11_ := Aside0.mk ((by rw [hg]; exact Nat.ne_of_gt (blk_lt (g := gb280) (o := .cells #[.int .i64 t272, .int .i64 t273, .int .i64 t274, .int .i64 t275, .int .i64 t276, .int .i64 t277, .int .i64 t278] 29 (0, 0)) (by (with_reducible repeat (first | refine blk_drewN ?_ _ | refine blk_drew ?_ | refine blk_alloc ?_ _)); exact BK280.out)) : gb290 ≠ gb280))
          clear HO268
          clear HO271
          clear BK279
          clear BK280
          clear HB
          have HO268 := n0_
          have HO271 := n1_
          have BK279 := n2_
          have BK280 := n3_
          have HB := n4_
          have BK290 := n5_
          have GW290 := n6_
          have GE290 := n7_
          have NB279_290 := n8_
          have NB290_279 := n9_
          have NB280_290 := n10_
          have NB290_280 := n11_
          clear n0_ n1_ n2_ n3_ n4_ n5_ n6_ n7_ n8_ n9_ n10_ n11_
          clear hb hbox hg
          refine hK.out _ _ ⟨(blk_cell BK279.out 0).trans rfl, (blk_cell BK279.out 1).trans rfl, (blk_cell BK279.out 2).trans rfl, (blk_cell BK279.out 3).trans rfl, (blk_cell BK279.out 4).trans rfl, (blk_cell BK279.out 5).trans rfl, (blk_cell BK279.out 6).trans rfl, (blk_cell BK279.out 7).trans rfl, (blk_cell BK279.out 8).trans rfl, (blk_cell BK280.out 0).trans rfl, (blk_cell BK280.out 1).trans rfl, (blk_cell BK280.out 2).trans rfl, (blk_cell BK280.out 3).trans rfl, (blk_cell BK280.out 4).trans rfl, (blk_cell BK280.out 5).trans rfl, (blk_cell BK280.out 6).trans rfl⟩ (fun hHeld => ?_)
          clear hK K
          refine norm_ (a' := ?_) ?_ ?_
          rotate_left
          · show Act.put _ (some 3) _ = _
            simp only [Act.put, List.setIfInBounds_toArray, List.set_cons_zero, List.set_cons_succ, i64_w, i32_w]
            rfl
          refine one_ (i := 2) (N := some 14) #[true, true, true, true, false, false, false, false, true, false, false] rfl rfl (one_of HT_.out (by kernel_rfl)) (by decide) (fun K hK => ?_)
          refine goes_ Try.func62 (by kernel_rfl) rfl #[.int .i64 2000, .int .i64 2000] (by rfl) rfl rfl (by (try simp only [List.map_toArray, List.map_cons, List.map_nil]); first | done | rfl | (simp only [List.length_drop, List.length_take]; rfl)) ?_
          with_reducible refine (isobathlaw03_point.calls 2000 2000 t281 t282 t283 t284 _ A2.out).mono ?_
          rintro e w18 ⟨rfl, hb⟩
          refine ⟨_, rfl, ?_⟩
          have n0_ := Aside0.mk (Kd.R_below (by (with_reducible repeat (first | apply Kd.R_alloc | apply Kd.R_drewN | apply Kd.R_drew)); exact HO268.out) hb)
          have n1_ := Aside0.mk (Kd.R_below (by (with_reducible repeat (first | apply Kd.R_alloc | apply Kd.R_drewN | apply Kd.R_drew)); exact HO271.out) hb)
          have n2_ := Aside0.mk (blk_below (g := gb279) (o := .cells #[.int .i64 t259, .int .i64 t260, .int .i64 t261, .int .i64 t262, .int .i64 t263, .int .i64 t264, .int .i64 t265, .slice Ao12 t266.length co12, .slice Ao13 t269.length co13] 25 (0, 0)) (by (with_reducible repeat (first | refine blk_drewN ?_ _ | refine blk_drew ?_ | refine blk_alloc ?_ _)); exact BK279.out) hb)
          have n3_ := Aside0.mk (blk_below (g := gb280) (o := .cells #[.int .i64 t272, .int .i64 t273, .int .i64 t274, .int .i64 t275, .int .i64 t276, .int .i64 t277, .int .i64 t278] 29 (0, 0)) (by (with_reducible repeat (first | refine blk_drewN ?_ _ | refine blk_drew ?_ | refine blk_alloc ?_ _)); exact BK280.out) hb)
          have n4_ := Aside0.mk (blk_below (g := gb290) (o := .cells #[.int .i64 0, .int .i64 0, .int .i64 0, .int .i64 0] 31 (0, 0)) (by (with_reducible repeat (first | refine blk_drewN ?_ _ | refine blk_drew ?_ | refine blk_alloc ?_ _)); exact BK290.out) hb)
          have n5_ := Aside0.mk (below_step (by repeat (first | (with_reducible first | exact HB.out | apply below_alloc | apply pw_below_drewN | apply below_drew1 | refine below_set ?_ GE279.out | refine below_set ?_ GE280.out | refine below_set ?_ GE290.out) | exact HB.out)) hb)
          clear HO268
          clear HO271
          clear BK279
          clear BK280
          clear BK290
          clear HB
          have HO268 := n0_
          have HO271 := n1_
          have BK279 := n2_
          have BK280 := n3_
          have BK290 := n4_
          have HB := n5_
          clear n0_ n1_ n2_ n3_ n4_ n5_
          (try clear hb)
          (try clear hb2)
          (try clear hk)
          (try clear hi)
          refine hK.out _ _ ⟨(blk_cell BK279.out 0).trans rfl, (blk_cell BK279.out 1).trans rfl, (blk_cell BK279.out 2).trans rfl, (blk_cell BK279.out 3).trans rfl, (blk_cell BK279.out 4).trans rfl, (blk_cell BK279.out 5).trans rfl, (blk_cell BK279.out 6).trans rfl, (blk_cell BK279.out 7).trans rfl, (blk_cell BK279.out 8).trans rfl, (blk_cell BK280.out 0).trans rfl, (blk_cell BK280.out 1).trans rfl, (blk_cell BK280.out 2).trans rfl, (blk_cell BK280.out 3).trans rfl, (blk_cell BK280.out 4).trans rfl, (blk_cell BK280.out 5).trans rfl, (blk_cell BK280.out 6).trans rfl⟩ (fun hHeld => ?_)
          clear hK K
          refine norm_ (a' := ?_) ?_ ?_
          rotate_left
          · show Act.put _ (some 14) _ = _
            simp only [Act.put, List.setIfInBounds_toArray, List.set_cons_zero, List.set_cons_succ, i64_w, i32_w]
            rfl
          refine one_ (i := 4) (N := some 16) #[true, true, true, true, true, false, false, false, true, false, false] rfl rfl (one_of HT_.out (by kernel_rfl)) (by decide) (fun K hK => ?_)
          refine goes_ Try.func20 (by kernel_rfl) rfl #[.agg #[.int .i64 t259, .int .i64 t260, .int .i64 t261, .int .i64 t262, .int .i64 t263, .int .i64 t264, .int .i64 t265, .slice Ao12 t266.length co12, .slice Ao13 t269.length co13], .agg #[.int .i64 t272, .int .i64 t273, .int .i64 t274, .int .i64 t275, .int .i64 t276, .int .i64 t277, .int .i64 t278], .agg #[.int .i64 t281, .int .i64 t282, .int .i64 t283, .int .i64 t284], .int .i64 0, .agg #[.int .i64 2, .int .i64 0]] (by rfl) rfl rfl (by (try simp only [List.map_toArray, List.map_cons, List.map_nil]); first | done | rfl | (simp only [List.length_drop, List.length_take]; rfl)) ?_
          with_reducible refine (glider_Dive.calls t259 t260 t261 t262 t263 t264 t265 _ _ t266 _ _ t269 t272 t273 t274 t275 t276 t277 t278 t281 t282 t283 t284 0 2 0 t285 t286 t287 t288 t289 _ ?side1 ?side2 ?side3 ?side4 A3.out).mono ?_
          (case side1 => repeat (first | exact (Kd.R_reads' HO268.out).2.2 | (with_reducible refine Kd.C_alloc ?_ _) | (with_reducible refine Kd.C_drewN ?_ _) | (with_reducible refine Kd.C_drew ?_)))
          (case side2 => exact (Kd.R_reads' HO268.out).2.1)
          (case side3 => repeat (first | exact (Kd.R_reads' HO271.out).2.2 | (with_reducible refine Kd.C_alloc ?_ _) | (with_reducible refine Kd.C_drewN ?_ _) | (with_reducible refine Kd.C_drew ?_)))
          (case side4 => exact (Kd.R_reads' HO271.out).2.1)
          rintro e w19 ⟨rfl, hb⟩
          refine ⟨_, rfl, ?_⟩
          have n0_ := Aside0.mk (Kd.R_below (by (with_reducible repeat (first | apply Kd.R_alloc | apply Kd.R_drewN | apply Kd.R_drew)); exact HO268.out) hb)
          have n1_ := Aside0.mk (Kd.R_below (by (with_reducible repeat (first | apply Kd.R_alloc | apply Kd.R_drewN | apply Kd.R_drew)); exact HO271.out) hb)
          have n2_ := Aside0.mk (blk_below (g := gb279) (o := .cells #[.int .i64 t259, .int .i64 t260, .int .i64 t261, .int .i64 t262, .int .i64 t263, .int .i64 t264, .int .i64 t265, .slice Ao12 t266.length co12, .slice Ao13 t269.length co13] 25 (0, 0)) (by (with_reducible repeat (first | refine blk_drewN ?_ _ | refine blk_drew ?_ | refine blk_alloc ?_ _)); exact BK279.out) hb)
          have n3_ := Aside0.mk (blk_below (g := gb280) (o := .cells #[.int .i64 t272, .int .i64 t273, .int .i64 t274, .int .i64 t275, .int .i64 t276, .int .i64 t277, .int .i64 t278] 29 (0, 0)) (by (with_reducible repeat (first | refine blk_drewN ?_ _ | refine blk_drew ?_ | refine blk_alloc ?_ _)); exact BK280.out) hb)
          have n4_ := Aside0.mk (blk_below (g := gb290) (o := .cells #[.int .i64 0, .int .i64 0, .int .i64 0, .int .i64 0] 31 (0, 0)) (by (with_reducible repeat (first | refine blk_drewN ?_ _ | refine blk_drew ?_ | refine blk_alloc ?_ _)); exact BK290.out) hb)
          have n5_ := Aside0.mk (below_step (by repeat (first | (with_reducible first | exact HB.out | apply below_alloc | apply pw_below_drewN | apply below_drew1 | refine below_set ?_ GE279.out | refine below_set ?_ GE280.out | refine below_set ?_ GE290.out) | exact HB.out)) hb)
          clear HO268
          clear HO271
          clear BK279
          clear BK280
          clear BK290
          clear HB
          have HO268 := n0_
          have HO271 := n1_
          have BK279 := n2_
          have BK280 := n3_
          have BK290 := n4_
          have HB := n5_
          clear n0_ n1_ n2_ n3_ n4_ n5_
          (try clear hb)
          (try clear hb2)
          (try clear hk)
          (try clear hi)
          refine hK.out _ _ ⟨(blk_cell BK279.out 0).trans rfl, (blk_cell BK279.out 1).trans rfl, (blk_cell BK279.out 2).trans rfl, (blk_cell BK279.out 3).trans rfl, (blk_cell BK279.out 4).trans rfl, (blk_cell BK279.out 5).trans rfl, (blk_cell BK279.out 6).trans rfl, (blk_cell BK279.out 7).trans rfl, (blk_cell BK279.out 8).trans rfl, (blk_cell BK280.out 0).trans rfl, (blk_cell BK280.out 1).trans rfl, (blk_cell BK280.out 2).trans rfl, (blk_cell BK280.out 3).trans rfl, (blk_cell BK280.out 4).trans rfl, (blk_cell BK280.out 5).trans rfl, (blk_cell BK280.out 6).trans rfl⟩ (fun hHeld => ?_)
          clear hK K
          refine norm_ (a' := ?_) ?_ ?_
          rotate_left
          · show Act.put _ (some 16) _ = _
            simp only [Act.put, List.setIfInBounds_toArray, List.set_cons_zero, List.set_cons_succ, i64_w, i32_w]
            rfl
          refine pure_ (i := 5) (N := some 11) (v := ?_) (a' := ?_) #[true, true, true, true, true, true, false, false, true, false, false] rfl rfl (any_of HT_.out (by kernel_rfl)) (fun _ _ _ h => h) (Or.inl ⟨by rfl, ?_⟩) ?_ ?_
          rotate_left
          · intro w'
            go_simp
            with_reducible rfl
          rotate_left
          · simp only [Act.put, List.setIfInBounds_toArray, List.set_cons_zero, List.set_cons_succ, i64_w, i32_w]
            rfl
          refine pure_ (i := 6) (N := some 17) (v := ?_) (a' := ?_) #[true, true, true, true, true, true, true, false, true, false, false] rfl rfl (any_of HT_.out (by kernel_rfl)) (fun _ _ _ h => h) (Or.inl ⟨by rfl, ?_⟩) ?_ ?_
          rotate_left
          · intro w'
            go_simp
            with_reducible rfl
          rotate_left
          · simp only [Act.put, List.setIfInBounds_toArray, List.set_cons_zero, List.set_cons_succ, i64_w, i32_w]
            rfl
          refine pure_ (i := 7) (N := some 18) (v := ?_) (a' := ?_) #[true, true, true, true, true, true, true, true, true, false, false] rfl rfl (any_of HT_.out (by kernel_rfl)) (fun _ _ _ h => h) (Or.inl ⟨by rfl, ?_⟩) ?_ ?_
          rotate_left
          · intro w'
            go_simp
            with_reducible rfl
          rotate_left
          · simp only [Act.put, List.setIfInBounds_toArray, List.set_cons_zero, List.set_cons_succ, i64_w, i32_w]
            rfl
          exact norm_ (by simp only [putAll, Act.put, List.setIfInBounds_toArray, List.set_cons_zero, List.set_cons_succ]) (hCont (gb290) _ ⟨hHeld, (by (with_reducible repeat (first | apply Kd.R_alloc | apply Kd.R_drewN | apply Kd.R_drew)); exact HO268.out), (by (with_reducible repeat (first | apply Kd.R_alloc | apply Kd.R_drewN | apply Kd.R_drew)); exact HO271.out), (by (with_reducible repeat (first | refine blk_drewN ?_ _ | refine blk_drew ?_ | refine blk_alloc ?_ _)); exact BK279.out), (by (with_reducible repeat (first | refine blk_drewN ?_ _ | refine blk_drew ?_ | refine blk_alloc ?_ _)); exact BK280.out), (by (with_reducible repeat (first | refine blk_drewN ?_ _ | refine blk_drew ?_ | refine blk_alloc ?_ _)); exact BK290.out), GW290.out, GE290.out, NB279_290.out, NB290_279.out, NB280_290.out, NB290_280.out, (by repeat (first | (with_reducible first | exact HB.out | apply below_alloc | apply pw_below_drewN | apply below_drew1 | refine below_set ?_ GE279.out | refine below_set ?_ GE280.out | refine below_set ?_ GE290.out) | exact HB.out))⟩)
      rintro gb290 w20 ⟨hS_, h0_, h1_, h2_, h3_, h4_, h5_, h6_, h7_, h8_, h9_, h10_, h11_⟩
      have n0_ : Aside0 (Kd.R Kd.bool 4 w20 w.heap.size (fun _ => True) (.slice Ao12 t266.length co12) t266) := ⟨h0_⟩
      have n1_ : Aside0 (Kd.R k40 40 w20 w.heap.size (fun _ => True) (.slice Ao13 t269.length co13) t269) := ⟨h1_⟩
      have n2_ : Aside0 (w20.heap[gb279]? = some (.cells #[.int .i64 t259, .int .i64 t260, .int .i64 t261, .int .i64 t262, .int .i64 t263, .int .i64 t264, .int .i64 t265, .slice Ao12 t266.length co12, .slice Ao13 t269.length co13] 25 (0, 0))) := ⟨h2_⟩
      have n3_ : Aside0 (w20.heap[gb280]? = some (.cells #[.int .i64 t272, .int .i64 t273, .int .i64 t274, .int .i64 t275, .int .i64 t276, .int .i64 t277, .int .i64 t278] 29 (0, 0))) := ⟨h3_⟩
      have n4_ : Aside0 (w20.heap[gb290]? = some (.cells #[.int .i64 0, .int .i64 0, .int .i64 0, .int .i64 0] 31 (0, 0))) := ⟨h4_⟩
      have n5_ : Aside0 (w.heap.size ≤ gb290) := ⟨h5_⟩
      have n6_ : Aside0 (w.heap.size ≤ gb290) := ⟨h6_⟩
      have n7_ : Aside0 (gb279 ≠ gb290) := ⟨h7_⟩
      have n8_ : Aside0 (gb290 ≠ gb279) := ⟨h8_⟩
      have n9_ : Aside0 (gb280 ≠ gb290) := ⟨h9_⟩
      have n10_ : Aside0 (gb290 ≠ gb280) := ⟨h10_⟩
      have n11_ : Aside0 (Below w.heap.size w w20) := ⟨h11_⟩
      clear HO268
      clear HO271
      clear BK279
      clear BK280
      clear HB
      clear h0_ h1_ h2_ h3_ h4_ h5_ h6_ h7_ h8_ h9_ h10_ h11_
      have HO268 := n0_
      have HO271 := n1_
      have BK279 := n2_
      have BK280 := n3_
      have BK290 := n4_
      have GW290 := n5_
      have GE290 := n6_
      have NB279_290 := n7_
      have NB290_279 := n8_
      have NB280_290 := n9_
      have NB290_280 := n10_
      have HB := n11_
      clear n0_ n1_ n2_ n3_ n4_ n5_ n6_ n7_ n8_ n9_ n10_ n11_
      have hHeld : w20.cell? ⟨gb279, 0, none⟩ = some (.int .i64 t259) ∧ w20.cell? ⟨gb279, 1, none⟩ = some (.int .i64 t260) ∧ w20.cell? ⟨gb279, 2, none⟩ = some (.int .i64 t261) ∧ w20.cell? ⟨gb279, 3, none⟩ = some (.int .i64 t262) ∧ w20.cell? ⟨gb279, 4, none⟩ = some (.int .i64 t263) ∧ w20.cell? ⟨gb279, 5, none⟩ = some (.int .i64 t264) ∧ w20.cell? ⟨gb279, 6, none⟩ = some (.int .i64 t265) ∧ w20.cell? ⟨gb279, 7, none⟩ = some (.slice Ao12 t266.length co12) ∧ w20.cell? ⟨gb279, 8, none⟩ = some (.slice Ao13 t269.length co13) ∧ w20.cell? ⟨gb280, 0, none⟩ = some (.int .i64 t272) ∧ w20.cell? ⟨gb280, 1, none⟩ = some (.int .i64 t273) ∧ w20.cell? ⟨gb280, 2, none⟩ = some (.int .i64 t274) ∧ w20.cell? ⟨gb280, 3, none⟩ = some (.int .i64 t275) ∧ w20.cell? ⟨gb280, 4, none⟩ = some (.int .i64 t276) ∧ w20.cell? ⟨gb280, 5, none⟩ = some (.int .i64 t277) ∧ w20.cell? ⟨gb280, 6, none⟩ = some (.int .i64 t278) := hS_
      refine norm_ (a' := ?_) ?_ ?_
      rotate_left
      · simp only [putAll, Act.put, List.setIfInBounds_toArray, List.set_cons_zero, List.set_cons_succ]
        rfl
      refine one_ (i := 9) (N := none) #[true, true, true, true, true, true, true, true, true, true, false] rfl rfl (one_of HT_.out (by kernel_rfl)) (by decide) (fun K hK => ?_)
      have hs21 : w20.cell? ⟨gb290, 0, none⟩ = some (.int .i64 0) := (blk_cell BK290.out 0).trans rfl
      have hfs21 := blk_frozen BK290.out 0
      have hns21_0 := NB279_290.out
      have hns21_1 := NB280_290.out
      have hms21_0 := NB290_279.out
      have hms21_1 := NB290_280.out
      have hs22 : w20.cell? ⟨gb290, 1, none⟩ = some (.int .i64 0) := (blk_cell BK290.out 1).trans rfl
      have hfs22 := blk_frozen BK290.out 1
      have hns22_0 := NB279_290.out
      have hns22_1 := NB280_290.out
      have hms22_0 := NB290_279.out
      have hms22_1 := NB290_280.out
      have hs23 : w20.cell? ⟨gb290, 2, none⟩ = some (.int .i64 0) := (blk_cell BK290.out 2).trans rfl
      have hfs23 := blk_frozen BK290.out 2
      have hns23_0 := NB279_290.out
      have hns23_1 := NB280_290.out
      have hms23_0 := NB290_279.out
      have hms23_1 := NB290_280.out
      have hs24 : w20.cell? ⟨gb290, 3, none⟩ = some (.int .i64 0) := (blk_cell BK290.out 3).trans rfl
      have hfs24 := blk_frozen BK290.out 3
      have hns24_0 := NB279_290.out
      have hns24_1 := NB280_290.out
      have hms24_0 := NB290_279.out
      have hms24_1 := NB290_280.out
      refine skip_ (w1 := ?_) (by rfl) rfl ?_ ?_
      rotate_left
      · go_simp
        rfl
      refine hK.out _ _ ⟨((cell_far (p := ⟨gb290, _, none⟩) NB279_290.out _).trans (((cell_far (p := ⟨gb290, _, none⟩) NB279_290.out _).trans (((cell_far (p := ⟨gb290, _, none⟩) NB279_290.out _).trans (((cell_far (p := ⟨gb290, _, none⟩) NB279_290.out _).trans (hHeld.1)))))))), ((cell_far (p := ⟨gb290, _, none⟩) NB279_290.out _).trans (((cell_far (p := ⟨gb290, _, none⟩) NB279_290.out _).trans (((cell_far (p := ⟨gb290, _, none⟩) NB279_290.out _).trans (((cell_far (p := ⟨gb290, _, none⟩) NB279_290.out _).trans (hHeld.2.1)))))))), ((cell_far (p := ⟨gb290, _, none⟩) NB279_290.out _).trans (((cell_far (p := ⟨gb290, _, none⟩) NB279_290.out _).trans (((cell_far (p := ⟨gb290, _, none⟩) NB279_290.out _).trans (((cell_far (p := ⟨gb290, _, none⟩) NB279_290.out _).trans (hHeld.2.2.1)))))))), ((cell_far (p := ⟨gb290, _, none⟩) NB279_290.out _).trans (((cell_far (p := ⟨gb290, _, none⟩) NB279_290.out _).trans (((cell_far (p := ⟨gb290, _, none⟩) NB279_290.out _).trans (((cell_far (p := ⟨gb290, _, none⟩) NB279_290.out _).trans (hHeld.2.2.2.1)))))))), ((cell_far (p := ⟨gb290, _, none⟩) NB279_290.out _).trans (((cell_far (p := ⟨gb290, _, none⟩) NB279_290.out _).trans (((cell_far (p := ⟨gb290, _, none⟩) NB279_290.out _).trans (((cell_far (p := ⟨gb290, _, none⟩) NB279_290.out _).trans (hHeld.2.2.2.2.1)))))))), ((cell_far (p := ⟨gb290, _, none⟩) NB279_290.out _).trans (((cell_far (p := ⟨gb290, _, none⟩) NB279_290.out _).trans (((cell_far (p := ⟨gb290, _, none⟩) NB279_290.out _).trans (((cell_far (p := ⟨gb290, _, none⟩) NB279_290.out _).trans (hHeld.2.2.2.2.2.1)))))))), ((cell_far (p := ⟨gb290, _, none⟩) NB279_290.out _).trans (((cell_far (p := ⟨gb290, _, none⟩) NB279_290.out _).trans (((cell_far (p := ⟨gb290, _, none⟩) NB279_290.out _).trans (((cell_far (p := ⟨gb290, _, none⟩) NB279_290.out _).trans (hHeld.2.2.2.2.2.2.1)))))))), ((cell_far (p := ⟨gb290, _, none⟩) NB279_290.out _).trans (((cell_far (p := ⟨gb290, _, none⟩) NB279_290.out _).trans (((cell_far (p := ⟨gb290, _, none⟩) NB279_290.out _).trans (((cell_far (p := ⟨gb290, _, none⟩) NB279_290.out _).trans (hHeld.2.2.2.2.2.2.2.1)))))))), ((cell_far (p := ⟨gb290, _, none⟩) NB279_290.out _).trans (((cell_far (p := ⟨gb290, _, none⟩) NB279_290.out _).trans (((cell_far (p := ⟨gb290, _, none⟩) NB279_290.out _).trans (((cell_far (p := ⟨gb290, _, none⟩) NB279_290.out _).trans (hHeld.2.2.2.2.2.2.2.2.1)))))))), ((cell_far (p := ⟨gb290, _, none⟩) NB280_290.out _).trans (((cell_far (p := ⟨gb290, _, none⟩) NB280_290.out _).trans (((cell_far (p := ⟨gb290, _, none⟩) NB280_290.out _).trans (((cell_far (p := ⟨gb290, _, none⟩) NB280_290.out _).trans (hHeld.2.2.2.2.2.2.2.2.2.1)))))))), ((cell_far (p := ⟨gb290, _, none⟩) NB280_290.out _).trans (((cell_far (p := ⟨gb290, _, none⟩) NB280_290.out _).trans (((cell_far (p := ⟨gb290, _, none⟩) NB280_290.out _).trans (((cell_far (p := ⟨gb290, _, none⟩) NB280_290.out _).trans (hHeld.2.2.2.2.2.2.2.2.2.2.1)))))))), ((cell_far (p := ⟨gb290, _, none⟩) NB280_290.out _).trans (((cell_far (p := ⟨gb290, _, none⟩) NB280_290.out _).trans (((cell_far (p := ⟨gb290, _, none⟩) NB280_290.out _).trans (((cell_far (p := ⟨gb290, _, none⟩) NB280_290.out _).trans (hHeld.2.2.2.2.2.2.2.2.2.2.2.1)))))))), ((cell_far (p := ⟨gb290, _, none⟩) NB280_290.out _).trans (((cell_far (p := ⟨gb290, _, none⟩) NB280_290.out _).trans (((cell_far (p := ⟨gb290, _, none⟩) NB280_290.out _).trans (((cell_far (p := ⟨gb290, _, none⟩) NB280_290.out _).trans (hHeld.2.2.2.2.2.2.2.2.2.2.2.2.1)))))))), ((cell_far (p := ⟨gb290, _, none⟩) NB280_290.out _).trans (((cell_far (p := ⟨gb290, _, none⟩) NB280_290.out _).trans (((cell_far (p := ⟨gb290, _, none⟩) NB280_290.out _).trans (((cell_far (p := ⟨gb290, _, none⟩) NB280_290.out _).trans (hHeld.2.2.2.2.2.2.2.2.2.2.2.2.2.1)))))))), ((cell_far (p := ⟨gb290, _, none⟩) NB280_290.out _).trans (((cell_far (p := ⟨gb290, _, none⟩) NB280_290.out _).trans (((cell_far (p := ⟨gb290, _, none⟩) NB280_290.out _).trans (((cell_far (p := ⟨gb290, _, none⟩) NB280_290.out _).trans (hHeld.2.2.2.2.2.2.2.2.2.2.2.2.2.2.1)))))))), ((cell_far (p := ⟨gb290, _, none⟩) NB280_290.out _).trans (((cell_far (p := ⟨gb290, _, none⟩) NB280_290.out _).trans (((cell_far (p := ⟨gb290, _, none⟩) NB280_290.out _).trans (((cell_far (p := ⟨gb290, _, none⟩) NB280_290.out _).trans (hHeld.2.2.2.2.2.2.2.2.2.2.2.2.2.2.2))))))))⟩ (fun hHeld => ?_)
      clear hK K
      refine pure_ (i := 10) (N := some 4) (v := ?_) (a' := ?_) #[true, true, true, true, true, true, true, true, true, true, true] rfl rfl (any_of HT_.out (by kernel_rfl)) (fun _ _ _ h => h) (Or.inl ⟨by rfl, ?_⟩) ?_ ?_
      rotate_left
      · intro w'
        go_simp
        with_reducible rfl
      rotate_left
      · simp only [Act.put, List.setIfInBounds_toArray, List.set_cons_zero, List.set_cons_succ, i64_w, i32_w]
        rfl
      refine done_ (done_of HT_.out (by kernel_rfl)) ?_
      have hnb25 := NB280_290.out
      have hnc25 := NB290_280.out
      have hcz26_0 : w20.cell? ⟨gb280, 0, none⟩ = some (.int .i64 t272) := (blk_cell BK280.out 0).trans rfl
      have hcz26_1 : w20.cell? ⟨gb280, 1, none⟩ = some (.int .i64 t273) := (blk_cell BK280.out 1).trans rfl
      have hcz26_2 : w20.cell? ⟨gb280, 2, none⟩ = some (.int .i64 t274) := (blk_cell BK280.out 2).trans rfl
      have hcz26_3 : w20.cell? ⟨gb280, 3, none⟩ = some (.int .i64 t275) := (blk_cell BK280.out 3).trans rfl
      have hcz26_4 : w20.cell? ⟨gb280, 4, none⟩ = some (.int .i64 t276) := (blk_cell BK280.out 4).trans rfl
      have hcz26_5 : w20.cell? ⟨gb280, 5, none⟩ = some (.int .i64 t277) := (blk_cell BK280.out 5).trans rfl
      have hcz26_6 : w20.cell? ⟨gb280, 6, none⟩ = some (.int .i64 t278) := (blk_cell BK280.out 6).trans rfl
      have hfz26_0 := blk_frozen BK280.out 0
      have hfz26_1 := blk_frozen BK280.out 1
      have hfz26_2 := blk_frozen BK280.out 2
      have hfz26_3 := blk_frozen BK280.out 3
      have hfz26_4 := blk_frozen BK280.out 4
      have hfz26_5 := blk_frozen BK280.out 5
      have hfz26_6 := blk_frozen BK280.out 6
      try go_wp2_with (first | ((with_reducible refine gate_callee (f := 37) rfl ?_); refine goesL_ (some 22) rfl rfl Try.func37 (by kernel_rfl) rfl #[.agg #[.int .i64 t272, .int .i64 t273, .int .i64 t274, .int .i64 t275, .int .i64 t276, .int .i64 t277, .int .i64 t278], .agg #[.int .i64 300, .int .i64 310]] rfl (by (try simp only [List.map_toArray, List.map_cons, List.map_nil]); first | done | rfl | (simp only [List.length_drop, List.length_take]; rfl)) ?_; (with_reducible refine (glider_Lasts.calls k t272 t273 t274 t275 t276 t277 t278 300 310 t291 t292 _ A4.out).mono ?_); rintro e w27 ⟨rfl, hb⟩; refine ⟨_, rfl, ?_⟩; have n0_ := Aside0.mk (Kd.R_below (by (with_reducible repeat (first | apply Kd.R_alloc | apply Kd.R_drewN | apply Kd.R_drew)); exact (Kd.R_mono (Kd.R_far (p := ⟨gb290, 3, none⟩) (Kd.R_far (p := ⟨gb290, 2, none⟩) (Kd.R_far (p := ⟨gb290, 1, none⟩) (Kd.R_far (p := ⟨gb290, 0, none⟩) (Kd.R_types HO268.out BK290.out (by decide)) (fun _ hk => hk.2) (.int .i64 t285)) (fun _ hk => hk.2) (.int .i64 t286)) (fun _ hk => hk.2) (.int .i64 t287)) (fun _ hk => hk.2) (.int .i64 t288)) (fun _ h_ => h_.1))) hb); have n1_ := Aside0.mk (Kd.R_below (by (with_reducible repeat (first | apply Kd.R_alloc | apply Kd.R_drewN | apply Kd.R_drew)); exact (Kd.R_mono (Kd.R_far (p := ⟨gb290, 3, none⟩) (Kd.R_far (p := ⟨gb290, 2, none⟩) (Kd.R_far (p := ⟨gb290, 1, none⟩) (Kd.R_far (p := ⟨gb290, 0, none⟩) (Kd.R_types HO271.out BK290.out (by decide)) (fun _ hk => hk.2) (.int .i64 t285)) (fun _ hk => hk.2) (.int .i64 t286)) (fun _ hk => hk.2) (.int .i64 t287)) (fun _ hk => hk.2) (.int .i64 t288)) (fun _ h_ => h_.1))) hb); have n2_ := Aside0.mk (blk_below (g := gb279) (o := .cells #[.int .i64 t259, .int .i64 t260, .int .i64 t261, .int .i64 t262, .int .i64 t263, .int .i64 t264, .int .i64 t265, .slice Ao12 t266.length co12, .slice Ao13 t269.length co13] 25 (0, 0)) (by (with_reducible repeat (first | refine blk_drewN ?_ _ | refine blk_drew ?_ | refine blk_alloc ?_ _)); refine blk_far ?_ NB279_290.out _; (with_reducible repeat (first | refine blk_drewN ?_ _ | refine blk_drew ?_ | refine blk_alloc ?_ _)); refine blk_far ?_ NB279_290.out _; (with_reducible repeat (first | refine blk_drewN ?_ _ | refine blk_drew ?_ | refine blk_alloc ?_ _)); refine blk_far ?_ NB279_290.out _; (with_reducible repeat (first | refine blk_drewN ?_ _ | refine blk_drew ?_ | refine blk_alloc ?_ _)); refine blk_far ?_ NB279_290.out _; (with_reducible repeat (first | refine blk_drewN ?_ _ | refine blk_drew ?_ | refine blk_alloc ?_ _)); exact BK279.out) hb); have n3_ := Aside0.mk (blk_below (g := gb280) (o := .cells #[.int .i64 t272, .int .i64 t273, .int .i64 t274, .int .i64 t275, .int .i64 t276, .int .i64 t277, .int .i64 t278] 29 (0, 0)) (by (with_reducible repeat (first | refine blk_drewN ?_ _ | refine blk_drew ?_ | refine blk_alloc ?_ _)); refine blk_far ?_ NB280_290.out _; (with_reducible repeat (first | refine blk_drewN ?_ _ | refine blk_drew ?_ | refine blk_alloc ?_ _)); refine blk_far ?_ NB280_290.out _; (with_reducible repeat (first | refine blk_drewN ?_ _ | refine blk_drew ?_ | refine blk_alloc ?_ _)); refine blk_far ?_ NB280_290.out _; (with_reducible repeat (first | refine blk_drewN ?_ _ | refine blk_drew ?_ | refine blk_alloc ?_ _)); refine blk_far ?_ NB280_290.out _; (with_reducible repeat (first | refine blk_drewN ?_ _ | refine blk_drew ?_ | refine blk_alloc ?_ _)); exact BK280.out) hb); have n4_ := Aside0.mk (blk_below (g := gb290) (o := .cells #[.int .i64 t285, .int .i64 t286, .int .i64 t287, .int .i64 t288] 31 (0, 0)) (by (with_reducible repeat (first | refine blk_drewN ?_ _ | refine blk_drew ?_ | refine blk_alloc ?_ _)); refine blk_put (cs := #[.int .i64 t285, .int .i64 t286, .int .i64 t287, .int .i64 0]) ?_ 3 _ rfl; (with_reducible repeat (first | refine blk_drewN ?_ _ | refine blk_drew ?_ | refine blk_alloc ?_ _)); refine blk_put (cs := #[.int .i64 t285, .int .i64 t286, .int .i64 0, .int .i64 0]) ?_ 2 _ rfl; (with_reducible repeat (first | refine blk_drewN ?_ _ | refine blk_drew ?_ | refine blk_alloc ?_ _)); refine blk_put (cs := #[.int .i64 t285, .int .i64 0, .int .i64 0, .int .i64 0]) ?_ 1 _ rfl; (with_reducible repeat (first | refine blk_drewN ?_ _ | refine blk_drew ?_ | refine blk_alloc ?_ _)); refine blk_put (cs := #[.int .i64 0, .int .i64 0, .int .i64 0, .int .i64 0]) ?_ 0 _ rfl; (with_reducible repeat (first | refine blk_drewN ?_ _ | refine blk_drew ?_ | refine blk_alloc ?_ _)); exact BK290.out) hb); have n5_ := Aside0.mk (below_step (by repeat (first | (with_reducible first | exact HB.out | apply below_alloc | apply pw_below_drewN | apply below_drew1 | refine below_set ?_ GE279.out | refine below_set ?_ GE280.out | refine below_set ?_ GE290.out) | exact HB.out)) hb); clear HO268; clear HO271; clear BK279; clear BK280; clear BK290; clear HB; have HO268 := n0_; have HO271 := n1_; have BK279 := n2_; have BK280 := n3_; have BK290 := n4_; have HB := n5_; clear n0_ n1_ n2_ n3_ n4_ n5_; (try clear hb); (try clear hb2); (try clear hk); (try clear hi); have hnb28 := NB290_279.out; have hnc28 := NB279_290.out; have hcz29_0 : w27.cell? ⟨gb290, 0, none⟩ = some (.int .i64 t285) := (blk_cell BK290.out 0).trans rfl; have hcz29_1 : w27.cell? ⟨gb290, 1, none⟩ = some (.int .i64 t286) := (blk_cell BK290.out 1).trans rfl; have hcz29_2 : w27.cell? ⟨gb290, 2, none⟩ = some (.int .i64 t287) := (blk_cell BK290.out 2).trans rfl; have hcz29_3 : w27.cell? ⟨gb290, 3, none⟩ = some (.int .i64 t288) := (blk_cell BK290.out 3).trans rfl; have hfz29_0 := blk_frozen BK290.out 0; have hfz29_1 := blk_frozen BK290.out 1; have hfz29_2 := blk_frozen BK290.out 2; have hfz29_3 := blk_frozen BK290.out 3))
      go_ret
      exact ⟨by first | rfl | (simp [errW_none, errW_some] <;> rfl) | (simp [*, errW_none, errW_some] <;> rfl), by repeat (first | (with_reducible first | exact HB.out | apply below_alloc | apply pw_below_drewN | apply below_drew1 | refine below_set ?_ GE279.out | refine below_set ?_ GE280.out | refine below_set ?_ GE290.out) | exact HB.out)⟩
    · rw [if_neg c6] at H
      have c6b0 : (t291 == 3) = false := beq_eq_false_iff_ne.mpr c6
      have c6b1 : (t291 != 3) = true := bne_iff_ne.mpr c6
      have hh_ := Option.some.inj H
      rw [hr_.out] at hh_
      cases hh_
  · rw [if_neg c5] at H
    have c5b0 : ((wrap64 (t289 + t292)) == 0) = false := beq_eq_false_iff_ne.mpr c5
    have c5b1 : ((wrap64 (t289 + t292)) != 0) = true := bne_iff_ne.mpr c5
    have hh_ := Option.some.inj H
    rw [hr_.out] at hh_
    cases hh_

end Go.Proofs.Ytmhaiihjfgfaoaa.Pr
end
section
-- PRINTED by print.py (a twelfth state) out of the translation. Not trusted: Lean checks it.
namespace Go.Proofs.Ytmhaiihjfgfaoaa.Pr
open Go.RowKit Go.Proofs.YtmhaiihjfgfaoaaW.PrintWords Go.Proofs.YtmhaiihjfgfaoaaW.PrintLast Go.Proofs.YtmhaiihjfgfaoaaW.PrintMore
attribute [local go_sem] max2_int min2_int max_two min_two max_four
set_option linter.unusedVariables false
set_option linter.unusedSimpArgs false

/-! ### isobathref01_Within: function 112 -/
def isobathref01_Within.f (a0 : Int) (a1 : Int) (a2 : Int) : Option (Bool) := if a0 ≥ a1 then (some (decide (a0 ≤ a2))) else (some false)
set_option maxHeartbeats 8000000 in
set_option maxRecDepth 100000 in
theorem isobathref01_Within.calls (a0 : Int) (a1 : Int) (a2 : Int) (r : Bool) (w : World) (h : isobathref01_Within.f a0 a1 a2 = some r) :
    Calls Try.prog 112 #[.int .i64 a0, .int .i64 a1, .int .i64 a2] w fun e w' => e = .returned (.bool r) ∧ Drawn0 w w' := by
  have H : (if a0 ≥ a1 then (some (decide (a0 ≤ a2))) else (some false)) = some r := h
  clear h
  by_cases c4 : a0 ≥ a1
  · rw [if_pos c4] at H
    have c4b0 : decide (a1 ≤ a0) = true := decide_eq_true c4
    clear c4
    obtain rfl := Option.some.inj H
    go_enter Try.func112, Try.ntmps112
    go_wp2
    go_ret
    exact ⟨by first | rfl | (simp; done) | (simp [*]; done), by repeat (first | exact Drawn0.refl _ | apply Drawn0.step)⟩
  · rw [if_neg c4] at H
    have c4b0 : decide (a1 ≤ a0) = false := decide_eq_false c4
    clear c4
    obtain rfl := Option.some.inj H
    go_enter Try.func112, Try.ntmps112
    go_wp2
    go_ret
    exact ⟨by first | rfl | (simp; done) | (simp [*]; done), by repeat (first | exact Drawn0.refl _ | apply Drawn0.step)⟩

end Go.Proofs.Ytmhaiihjfgfaoaa.Pr
end
section
-- PRINTED by print.py (a twelfth state) out of the translation. Not trusted: Lean checks it.
namespace Go.Proofs.Ytmhaiihjfgfaoaa.Pr
open Go.RowKit Go.Proofs.YtmhaiihjfgfaoaaW.PrintWords Go.Proofs.YtmhaiihjfgfaoaaW.PrintLast Go.Proofs.YtmhaiihjfgfaoaaW.PrintMore
attribute [local go_sem] max2_int min2_int max_two min_two max_four
set_option linter.unusedVariables false
set_option linter.unusedSimpArgs false

/-! ### isobathref01_Valid: function 111 -/
def isobathref01_Valid.f (a0_0 : Int) (a0_1 : Int) : Option (Bool) := if a0_0 ≤ a0_1 then ((isobathref01_Within.f a0_0 (-1073741824) 1073741824).bind fun t103 => (if t103 = true then ((isobathref01_Within.f a0_1 (-1073741824) 1073741824).bind fun t104 => (some t104)) else (some false))) else (some false)
set_option maxHeartbeats 8000000 in
set_option maxRecDepth 100000 in
theorem isobathref01_Valid.calls (a0_0 : Int) (a0_1 : Int) (r : Bool) (w : World) (h : isobathref01_Valid.f a0_0 a0_1 = some r) :
    Calls Try.prog 111 #[.agg #[.int .i64 a0_0, .int .i64 a0_1]] w fun e w' => e = .returned (.bool r) ∧ Below w.heap.size w w' := by
  have hu27 := Try.underlying27
  have HB := Aside0.mk (Below.refl w.heap.size w)
  have H : (if a0_0 ≤ a0_1 then ((isobathref01_Within.f a0_0 (-1073741824) 1073741824).bind fun t103 => (if t103 = true then ((isobathref01_Within.f a0_1 (-1073741824) 1073741824).bind fun t104 => (some t104)) else (some false))) else (some false)) = some r := h
  clear h
  by_cases c2 : a0_0 ≤ a0_1
  · rw [if_pos c2] at H
    have c2b0 : decide (a0_0 ≤ a0_1) = true := decide_eq_true c2
    clear c2
    replace H := Option.bind_eq_some_iff.mp H
    obtain ⟨t103, A30, H⟩ := H
    replace H : (if t103 = true then ((isobathref01_Within.f a0_1 (-1073741824) 1073741824).bind fun t104 => (some t104)) else (some false)) = some r := H
    have A3 := Aside0.mk A30
    clear A30
    by_cases c4 : t103 = true
    · subst c4
      have H1 : ((isobathref01_Within.f a0_1 (-1073741824) 1073741824).bind fun t104 => (some t104)) = some r := by rw [if_pos rfl] at H; exact H
      clear H
      have H := H1
      clear H1
      replace H := Option.bind_eq_some_iff.mp H
      obtain ⟨t104, A50, H⟩ := H
      replace H : (some t104) = some r := H
      have A5 := Aside0.mk A50
      clear A50
      obtain rfl := Option.some.inj H
      go_enter Try.func111, Try.ntmps111
      go_wp2_with (first | ((with_reducible refine gate_dst (N := 1) rfl ?_); refine box_event ?hg (N := 1) ?hd (cs := #[.int .i64 a0_0, .int .i64 a0_1]) (t := 27) ?hr ?_; (case hd => rfl); (case hg => rfl); (case hr => first | (go_simp; done) | (go_simp; rfl)); intro gb102 hg w6 hbox hb; have n0_ := Aside0.mk (below_step (by repeat (first | (with_reducible first | exact HB.out | apply below_alloc | apply pw_below_drewN | apply below_drew1) | exact HB.out)) hb); have n1_ := Aside0.mk (hbox); have n2_ := Aside0.mk ((by rw [hg]; exact (below_size (by repeat (first | (with_reducible first | exact HB.out | apply below_alloc | apply pw_below_drewN | apply below_drew1) | exact HB.out))) : w.heap.size ≤ gb102)); have n3_ := Aside0.mk ((by rw [hg]; exact (below_size (by repeat (first | (with_reducible first | exact HB.out | apply below_alloc | apply pw_below_drewN | apply below_drew1) | exact HB.out))) : w.heap.size ≤ gb102)); clear HB; have HB := n0_; have BK102 := n1_; have GW102 := n2_; have GE102 := n3_; clear n0_ n1_ n2_ n3_; clear hb hbox hg; have hcz7_0 : w6.cell? ⟨gb102, 0, none⟩ = some (.int .i64 a0_0) := (blk_cell BK102.out 0).trans rfl; have hcz7_1 : w6.cell? ⟨gb102, 1, none⟩ = some (.int .i64 a0_1) := (blk_cell BK102.out 1).trans rfl; have hfz7_0 := blk_frozen BK102.out 0; have hfz7_1 := blk_frozen BK102.out 1) | (go_at_call 112; (with_reducible refine (isobathref01_Within.calls a0_0 (-1073741824) 1073741824 true _ A3.out).mono ?_); rintro e w' ⟨rfl, ⟨nd, rfl⟩⟩) | (go_at_call 112; (with_reducible refine (isobathref01_Within.calls a0_1 (-1073741824) 1073741824 t104 _ A5.out).mono ?_); rintro e w' ⟨rfl, ⟨nd, rfl⟩⟩))
      go_ret
      exact ⟨by first | rfl | (simp [errW_none, errW_some] <;> rfl) | (simp [*, errW_none, errW_some] <;> rfl), by repeat (first | (with_reducible first | exact HB.out | apply below_alloc | apply pw_below_drewN | apply below_drew1 | refine below_set ?_ GE102.out) | exact HB.out)⟩
    · replace c4 := Bool.eq_false_iff.mpr c4
      subst c4
      have H1 : (some false) = some r := by rw [if_neg (show ¬ (false = true) by decide)] at H; exact H
      clear H
      have H := H1
      clear H1
      obtain rfl := Option.some.inj H
      go_enter Try.func111, Try.ntmps111
      go_wp2_with (first | ((with_reducible refine gate_dst (N := 1) rfl ?_); refine box_event ?hg (N := 1) ?hd (cs := #[.int .i64 a0_0, .int .i64 a0_1]) (t := 27) ?hr ?_; (case hd => rfl); (case hg => rfl); (case hr => first | (go_simp; done) | (go_simp; rfl)); intro gb102 hg w8 hbox hb; have n0_ := Aside0.mk (below_step (by repeat (first | (with_reducible first | exact HB.out | apply below_alloc | apply pw_below_drewN | apply below_drew1) | exact HB.out)) hb); have n1_ := Aside0.mk (hbox); have n2_ := Aside0.mk ((by rw [hg]; exact (below_size (by repeat (first | (with_reducible first | exact HB.out | apply below_alloc | apply pw_below_drewN | apply below_drew1) | exact HB.out))) : w.heap.size ≤ gb102)); have n3_ := Aside0.mk ((by rw [hg]; exact (below_size (by repeat (first | (with_reducible first | exact HB.out | apply below_alloc | apply pw_below_drewN | apply below_drew1) | exact HB.out))) : w.heap.size ≤ gb102)); clear HB; have HB := n0_; have BK102 := n1_; have GW102 := n2_; have GE102 := n3_; clear n0_ n1_ n2_ n3_; clear hb hbox hg; have hcz9_0 : w8.cell? ⟨gb102, 0, none⟩ = some (.int .i64 a0_0) := (blk_cell BK102.out 0).trans rfl; have hcz9_1 : w8.cell? ⟨gb102, 1, none⟩ = some (.int .i64 a0_1) := (blk_cell BK102.out 1).trans rfl; have hfz9_0 := blk_frozen BK102.out 0; have hfz9_1 := blk_frozen BK102.out 1) | (go_at_call 112; (with_reducible refine (isobathref01_Within.calls a0_0 (-1073741824) 1073741824 false _ A3.out).mono ?_); rintro e w' ⟨rfl, ⟨nd, rfl⟩⟩))
      go_ret
      exact ⟨by first | rfl | (simp [errW_none, errW_some] <;> rfl) | (simp [*, errW_none, errW_some] <;> rfl), by repeat (first | (with_reducible first | exact HB.out | apply below_alloc | apply pw_below_drewN | apply below_drew1 | refine below_set ?_ GE102.out) | exact HB.out)⟩
  · rw [if_neg c2] at H
    have c2b0 : decide (a0_0 ≤ a0_1) = false := decide_eq_false c2
    clear c2
    obtain rfl := Option.some.inj H
    go_enter Try.func111, Try.ntmps111
    go_wp2_with (first | ((with_reducible refine gate_dst (N := 1) rfl ?_); refine box_event ?hg (N := 1) ?hd (cs := #[.int .i64 a0_0, .int .i64 a0_1]) (t := 27) ?hr ?_; (case hd => rfl); (case hg => rfl); (case hr => first | (go_simp; done) | (go_simp; rfl)); intro gb102 hg w10 hbox hb; have n0_ := Aside0.mk (below_step (by repeat (first | (with_reducible first | exact HB.out | apply below_alloc | apply pw_below_drewN | apply below_drew1) | exact HB.out)) hb); have n1_ := Aside0.mk (hbox); have n2_ := Aside0.mk ((by rw [hg]; exact (below_size (by repeat (first | (with_reducible first | exact HB.out | apply below_alloc | apply pw_below_drewN | apply below_drew1) | exact HB.out))) : w.heap.size ≤ gb102)); have n3_ := Aside0.mk ((by rw [hg]; exact (below_size (by repeat (first | (with_reducible first | exact HB.out | apply below_alloc | apply pw_below_drewN | apply below_drew1) | exact HB.out))) : w.heap.size ≤ gb102)); clear HB; have HB := n0_; have BK102 := n1_; have GW102 := n2_; have GE102 := n3_; clear n0_ n1_ n2_ n3_; clear hb hbox hg; have hcz11_0 : w10.cell? ⟨gb102, 0, none⟩ = some (.int .i64 a0_0) := (blk_cell BK102.out 0).trans rfl; have hcz11_1 : w10.cell? ⟨gb102, 1, none⟩ = some (.int .i64 a0_1) := (blk_cell BK102.out 1).trans rfl; have hfz11_0 := blk_frozen BK102.out 0; have hfz11_1 := blk_frozen BK102.out 1))
    go_ret
    exact ⟨by first | rfl | (simp [errW_none, errW_some] <;> rfl) | (simp [*, errW_none, errW_some] <;> rfl), by repeat (first | (with_reducible first | exact HB.out | apply below_alloc | apply pw_below_drewN | apply below_drew1 | refine below_set ?_ GE102.out) | exact HB.out)⟩

end Go.Proofs.Ytmhaiihjfgfaoaa.Pr
end
section
-- PRINTED by print.py (a twelfth state) out of the translation. Not trusted: Lean checks it.
namespace Go.Proofs.Ytmhaiihjfgfaoaa.Pr
open Go.RowKit Go.Proofs.YtmhaiihjfgfaoaaW.PrintWords Go.Proofs.YtmhaiihjfgfaoaaW.PrintLast Go.Proofs.YtmhaiihjfgfaoaaW.PrintMore
attribute [local go_sem] max2_int min2_int max_two min_two max_four
set_option linter.unusedVariables false
set_option linter.unusedSimpArgs false

/-! ### isobathref03_bounded: function 78 -/
def isobathref03_bounded.f (a0_0 : Int) (a0_1 : Int) (a1 : Int) (a2 : Int) : Option (Bool) := (isobathref01_Valid.f a0_0 a0_1).bind fun t106 => (if t106 = true then (if a0_0 ≥ a1 then (some (decide (a0_1 ≤ a2))) else (some false)) else (some false))
set_option maxHeartbeats 8000000 in
set_option maxRecDepth 100000 in
theorem isobathref03_bounded.calls (a0_0 : Int) (a0_1 : Int) (a1 : Int) (a2 : Int) (r : Bool) (w : World) (h : isobathref03_bounded.f a0_0 a0_1 a1 a2 = some r) :
    Calls Try.prog 78 #[.agg #[.int .i64 a0_0, .int .i64 a0_1], .int .i64 a1, .int .i64 a2] w fun e w' => e = .returned (.bool r) ∧ Below w.heap.size w w' := by
  have hu27 := Try.underlying27
  have HB := Aside0.mk (Below.refl w.heap.size w)
  have H : ((isobathref01_Valid.f a0_0 a0_1).bind fun t106 => (if t106 = true then (if a0_0 ≥ a1 then (some (decide (a0_1 ≤ a2))) else (some false)) else (some false))) = some r := h
  clear h
  replace H := Option.bind_eq_some_iff.mp H
  obtain ⟨t106, A40, H⟩ := H
  replace H : (if t106 = true then (if a0_0 ≥ a1 then (some (decide (a0_1 ≤ a2))) else (some false)) else (some false)) = some r := H
  have A4 := Aside0.mk A40
  clear A40
  by_cases c5 : t106 = true
  · subst c5
    have H1 : (if a0_0 ≥ a1 then (some (decide (a0_1 ≤ a2))) else (some false)) = some r := by rw [if_pos rfl] at H; exact H
    clear H
    have H := H1
    clear H1
    by_cases c6 : a0_0 ≥ a1
    · rw [if_pos c6] at H
      have c6b0 : decide (a1 ≤ a0_0) = true := decide_eq_true c6
      clear c6
      obtain rfl := Option.some.inj H
      go_enter Try.func78, Try.ntmps78
      go_wp2_with (first | ((with_reducible refine gate_dst (N := 3) rfl ?_); refine box_event ?hg (N := 3) ?hd (cs := #[.int .i64 a0_0, .int .i64 a0_1]) (t := 27) ?hr ?_; (case hd => rfl); (case hg => rfl); (case hr => first | (go_simp; done) | (go_simp; rfl)); intro gb105 hg w7 hbox hb; have n0_ := Aside0.mk (below_step (by repeat (first | (with_reducible first | exact HB.out | apply below_alloc | apply pw_below_drewN | apply below_drew1) | exact HB.out)) hb); have n1_ := Aside0.mk (hbox); have n2_ := Aside0.mk ((by rw [hg]; exact (below_size (by repeat (first | (with_reducible first | exact HB.out | apply below_alloc | apply pw_below_drewN | apply below_drew1) | exact HB.out))) : w.heap.size ≤ gb105)); have n3_ := Aside0.mk ((by rw [hg]; exact (below_size (by repeat (first | (with_reducible first | exact HB.out | apply below_alloc | apply pw_below_drewN | apply below_drew1) | exact HB.out))) : w.heap.size ≤ gb105)); clear HB; have HB := n0_; have BK105 := n1_; have GW105 := n2_; have GE105 := n3_; clear n0_ n1_ n2_ n3_; clear hb hbox hg; have hcz8_0 : w7.cell? ⟨gb105, 0, none⟩ = some (.int .i64 a0_0) := (blk_cell BK105.out 0).trans rfl; have hcz8_1 : w7.cell? ⟨gb105, 1, none⟩ = some (.int .i64 a0_1) := (blk_cell BK105.out 1).trans rfl; have hfz8_0 := blk_frozen BK105.out 0; have hfz8_1 := blk_frozen BK105.out 1) | ((with_reducible refine gate_callee (f := 111) rfl ?_); refine goesL_ (some 8) rfl rfl Try.func111 (by kernel_rfl) rfl #[.agg #[.int .i64 a0_0, .int .i64 a0_1]] rfl (by (try simp only [List.map_toArray, List.map_cons, List.map_nil]); first | done | rfl | (simp only [List.length_drop, List.length_take]; rfl)) ?_; (with_reducible refine (isobathref01_Valid.calls a0_0 a0_1 true _ A4.out).mono ?_); rintro e w9 ⟨rfl, hb⟩; refine ⟨_, rfl, ?_⟩; have n0_ := Aside0.mk (blk_below (g := gb105) (o := .cells #[.int .i64 a0_0, .int .i64 a0_1] 27 (0, 0)) (by (with_reducible repeat (first | refine blk_drewN ?_ _ | refine blk_drew ?_ | refine blk_alloc ?_ _)); exact BK105.out) hb); have n1_ := Aside0.mk (below_step (by repeat (first | (with_reducible first | exact HB.out | apply below_alloc | apply pw_below_drewN | apply below_drew1 | refine below_set ?_ GE105.out) | exact HB.out)) hb); clear BK105; clear HB; have BK105 := n0_; have HB := n1_; clear n0_ n1_; (try clear hb); (try clear hb2); (try clear hk); (try clear hi); have hcz10_0 : w9.cell? ⟨gb105, 0, none⟩ = some (.int .i64 a0_0) := (blk_cell BK105.out 0).trans rfl; have hcz10_1 : w9.cell? ⟨gb105, 1, none⟩ = some (.int .i64 a0_1) := (blk_cell BK105.out 1).trans rfl; have hfz10_0 := blk_frozen BK105.out 0; have hfz10_1 := blk_frozen BK105.out 1))
      go_ret
      exact ⟨by first | rfl | (simp [errW_none, errW_some] <;> rfl) | (simp [*, errW_none, errW_some] <;> rfl), by repeat (first | (with_reducible first | exact HB.out | apply below_alloc | apply pw_below_drewN | apply below_drew1 | refine below_set ?_ GE105.out) | exact HB.out)⟩
    · rw [if_neg c6] at H
      have c6b0 : decide (a1 ≤ a0_0) = false := decide_eq_false c6
      clear c6
      obtain rfl := Option.some.inj H
      go_enter Try.func78, Try.ntmps78
      go_wp2_with (first | ((with_reducible refine gate_dst (N := 3) rfl ?_); refine box_event ?hg (N := 3) ?hd (cs := #[.int .i64 a0_0, .int .i64 a0_1]) (t := 27) ?hr ?_; (case hd => rfl); (case hg => rfl); (case hr => first | (go_simp; done) | (go_simp; rfl)); intro gb105 hg w11 hbox hb; have n0_ := Aside0.mk (below_step (by repeat (first | (with_reducible first | exact HB.out | apply below_alloc | apply pw_below_drewN | apply below_drew1) | exact HB.out)) hb); have n1_ := Aside0.mk (hbox); have n2_ := Aside0.mk ((by rw [hg]; exact (below_size (by repeat (first | (with_reducible first | exact HB.out | apply below_alloc | apply pw_below_drewN | apply below_drew1) | exact HB.out))) : w.heap.size ≤ gb105)); have n3_ := Aside0.mk ((by rw [hg]; exact (below_size (by repeat (first | (with_reducible first | exact HB.out | apply below_alloc | apply pw_below_drewN | apply below_drew1) | exact HB.out))) : w.heap.size ≤ gb105)); clear HB; have HB := n0_; have BK105 := n1_; have GW105 := n2_; have GE105 := n3_; clear n0_ n1_ n2_ n3_; clear hb hbox hg; have hcz12_0 : w11.cell? ⟨gb105, 0, none⟩ = some (.int .i64 a0_0) := (blk_cell BK105.out 0).trans rfl; have hcz12_1 : w11.cell? ⟨gb105, 1, none⟩ = some (.int .i64 a0_1) := (blk_cell BK105.out 1).trans rfl; have hfz12_0 := blk_frozen BK105.out 0; have hfz12_1 := blk_frozen BK105.out 1) | ((with_reducible refine gate_callee (f := 111) rfl ?_); refine goesL_ (some 8) rfl rfl Try.func111 (by kernel_rfl) rfl #[.agg #[.int .i64 a0_0, .int .i64 a0_1]] rfl (by (try simp only [List.map_toArray, List.map_cons, List.map_nil]); first | done | rfl | (simp only [List.length_drop, List.length_take]; rfl)) ?_; (with_reducible refine (isobathref01_Valid.calls a0_0 a0_1 true _ A4.out).mono ?_); rintro e w13 ⟨rfl, hb⟩; refine ⟨_, rfl, ?_⟩; have n0_ := Aside0.mk (blk_below (g := gb105) (o := .cells #[.int .i64 a0_0, .int .i64 a0_1] 27 (0, 0)) (by (with_reducible repeat (first | refine blk_drewN ?_ _ | refine blk_drew ?_ | refine blk_alloc ?_ _)); exact BK105.out) hb); have n1_ := Aside0.mk (below_step (by repeat (first | (with_reducible first | exact HB.out | apply below_alloc | apply pw_below_drewN | apply below_drew1 | refine below_set ?_ GE105.out) | exact HB.out)) hb); clear BK105; clear HB; have BK105 := n0_; have HB := n1_; clear n0_ n1_; (try clear hb); (try clear hb2); (try clear hk); (try clear hi); have hcz14_0 : w13.cell? ⟨gb105, 0, none⟩ = some (.int .i64 a0_0) := (blk_cell BK105.out 0).trans rfl; have hcz14_1 : w13.cell? ⟨gb105, 1, none⟩ = some (.int .i64 a0_1) := (blk_cell BK105.out 1).trans rfl; have hfz14_0 := blk_frozen BK105.out 0; have hfz14_1 := blk_frozen BK105.out 1))
      go_ret
      exact ⟨by first | rfl | (simp [errW_none, errW_some] <;> rfl) | (simp [*, errW_none, errW_some] <;> rfl), by repeat (first | (with_reducible first | exact HB.out | apply below_alloc | apply pw_below_drewN | apply below_drew1 | refine below_set ?_ GE105.out) | exact HB.out)⟩
  · replace c5 := Bool.eq_false_iff.mpr c5
    subst c5
    have H1 : (some false) = some r := by rw [if_neg (show ¬ (false = true) by decide)] at H; exact H
    clear H
    have H := H1
    clear H1
    obtain rfl := Option.some.inj H
    go_enter Try.func78, Try.ntmps78
    go_wp2_with (first | ((with_reducible refine gate_dst (N := 3) rfl ?_); refine box_event ?hg (N := 3) ?hd (cs := #[.int .i64 a0_0, .int .i64 a0_1]) (t := 27) ?hr ?_; (case hd => rfl); (case hg => rfl); (case hr => first | (go_simp; done) | (go_simp; rfl)); intro gb105 hg w15 hbox hb; have n0_ := Aside0.mk (below_step (by repeat (first | (with_reducible first | exact HB.out | apply below_alloc | apply pw_below_drewN | apply below_drew1) | exact HB.out)) hb); have n1_ := Aside0.mk (hbox); have n2_ := Aside0.mk ((by rw [hg]; exact (below_size (by repeat (first | (with_reducible first | exact HB.out | apply below_alloc | apply pw_below_drewN | apply below_drew1) | exact HB.out))) : w.heap.size ≤ gb105)); have n3_ := Aside0.mk ((by rw [hg]; exact (below_size (by repeat (first | (with_reducible first | exact HB.out | apply below_alloc | apply pw_below_drewN | apply below_drew1) | exact HB.out))) : w.heap.size ≤ gb105)); clear HB; have HB := n0_; have BK105 := n1_; have GW105 := n2_; have GE105 := n3_; clear n0_ n1_ n2_ n3_; clear hb hbox hg; have hcz16_0 : w15.cell? ⟨gb105, 0, none⟩ = some (.int .i64 a0_0) := (blk_cell BK105.out 0).trans rfl; have hcz16_1 : w15.cell? ⟨gb105, 1, none⟩ = some (.int .i64 a0_1) := (blk_cell BK105.out 1).trans rfl; have hfz16_0 := blk_frozen BK105.out 0; have hfz16_1 := blk_frozen BK105.out 1) | ((with_reducible refine gate_callee (f := 111) rfl ?_); refine goesL_ (some 8) rfl rfl Try.func111 (by kernel_rfl) rfl #[.agg #[.int .i64 a0_0, .int .i64 a0_1]] rfl (by (try simp only [List.map_toArray, List.map_cons, List.map_nil]); first | done | rfl | (simp only [List.length_drop, List.length_take]; rfl)) ?_; (with_reducible refine (isobathref01_Valid.calls a0_0 a0_1 false _ A4.out).mono ?_); rintro e w17 ⟨rfl, hb⟩; refine ⟨_, rfl, ?_⟩; have n0_ := Aside0.mk (blk_below (g := gb105) (o := .cells #[.int .i64 a0_0, .int .i64 a0_1] 27 (0, 0)) (by (with_reducible repeat (first | refine blk_drewN ?_ _ | refine blk_drew ?_ | refine blk_alloc ?_ _)); exact BK105.out) hb); have n1_ := Aside0.mk (below_step (by repeat (first | (with_reducible first | exact HB.out | apply below_alloc | apply pw_below_drewN | apply below_drew1 | refine below_set ?_ GE105.out) | exact HB.out)) hb); clear BK105; clear HB; have BK105 := n0_; have HB := n1_; clear n0_ n1_; (try clear hb); (try clear hb2); (try clear hk); (try clear hi)))
    go_ret
    exact ⟨by first | rfl | (simp [errW_none, errW_some] <;> rfl) | (simp [*, errW_none, errW_some] <;> rfl), by repeat (first | (with_reducible first | exact HB.out | apply below_alloc | apply pw_below_drewN | apply below_drew1 | refine below_set ?_ GE105.out) | exact HB.out)⟩

end Go.Proofs.Ytmhaiihjfgfaoaa.Pr
end
