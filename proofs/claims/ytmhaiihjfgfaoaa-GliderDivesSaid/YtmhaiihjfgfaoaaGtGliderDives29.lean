/- Part 29 of the proof of GliderDives: what the functions compute. No condition. -/
import Derived.Test.YtmhaiihjfgfaoaaGtGliderDives3
import Derived.Test.YtmhaiihjfgfaoaaGtGliderDives12
import Derived.Test.YtmhaiihjfgfaoaaGtGliderDives28
import Derived.Test.YtmhaiihjfgfaoaaGtGliderDives15
import Derived.Test.YtmhaiihjfgfaoaaGtGliderDives16
import Derived.Test.YtmhaiihjfgfaoaaGtGliderDives17
import Derived.Test.YtmhaiihjfgfaoaaGtGliderDives20
section
/- What the document's answer says of seas, vehicles and boxes: the same as the program. -/
namespace Go.Proofs.Ytmhaiihjfgfaoaa.Gl
open Go.RowKit Go.Proofs.YtmhaiihjfgfaoaaW.PrintWords Go.Proofs.YtmhaiihjfgfaoaaW.PrintLast Go.Proofs.YtmhaiihjfgfaoaaW.PrintMore Go.Proofs.Ytmhaiihjfgfaoaa.Pr
set_option linter.unusedVariables false
theorem w64_id {x : Int} (h : -9223372036854775808 ≤ x ∧ x < 9223372036854775808) : wrap64 x = x := by unfold wrap64; omega
theorem ref_valid (lo hi : Int) : isobathref01_Valid.f lo hi = some (okS lo hi) := by
 unfold isobathref01_Valid.f isobathref01_Within.f
 rw [show okS lo hi = (decide (lo ≤ hi) && (decide (-1073741824 ≤ lo) && decide (lo ≤ 1073741824)) && (decide (-1073741824 ≤ hi) && decide (hi ≤ 1073741824))) from by
  rw [Bool.eq_iff_iff, okS_iff]; simp only [Bool.and_eq_true, decide_eq_true_eq]; omega]
 by_cases h1 : lo ≤ hi <;> by_cases h2 : -1073741824 ≤ lo <;> by_cases h3 : lo ≤ 1073741824 <;> by_cases h4 : -1073741824 ≤ hi <;> by_cases h5 : hi ≤ 1073741824 <;> simp [h1, h2, h3, h4, h5]
theorem ref_bounded (lo hi a b : Int) : isobathref03_bounded.f lo hi a b = some (bndB lo hi a b) := by
 unfold isobathref03_bounded.f bndB
 rw [ref_valid, Option.bind_some]
 cases okS lo hi with
 | false => rfl
 | true =>
  by_cases h : a ≤ lo <;> simp [h]
theorem ref_within (x lo hi : Int) : isobathref01_Within.f x lo hi = some (btwB x lo hi) := by
 unfold isobathref01_Within.f btwB
 by_cases h : lo ≤ x <;> simp [h]
theorem ref_box (x : S31) : isobathref01_ValidBox.f x.f0.f0 x.f0.f1 x.f1.f0 x.f1.f1 = some (boxB x) := by
 unfold isobathref01_ValidBox.f boxB
 simp only [ref_valid, ref_within, Option.bind_some]
 cases okS x.f0.f0 x.f0.f1 <;> cases okS x.f1.f0 x.f1.f1 <;> cases btwB x.f0.f0 (-268435456) 268435456 <;> cases btwB x.f0.f1 (-268435456) 268435456 <;> cases btwB x.f1.f0 (-268435456) 268435456 <;> cases btwB x.f1.f1 (-268435456) 268435456 <;> rfl
theorem ref_veh (v : Veh) : isobathref03_CheckVehicle.f v.speed v.dive v.use.f0 v.use.f1 v.drift.f0 v.drift.f1 v.reserve = some (vehE v) := by
 unfold isobathref03_CheckVehicle.f vehE vehB btwB
 simp only [ref_bounded, Option.bind_some]
 by_cases h1 : v.speed < 0
 ·rw [if_pos h1, show decide (0 ≤ v.speed) = false from decide_eq_false (by omega)]; rfl
 rw [if_neg h1, show decide (0 ≤ v.speed) = true from decide_eq_true (by omega)]
 by_cases h2 : v.speed > 5000
 ·rw [if_pos h2, show decide (v.speed ≤ 5000) = false from decide_eq_false (by omega)]; rfl
 rw [if_neg h2, show decide (v.speed ≤ 5000) = true from decide_eq_true (by omega)]
 by_cases h3 : v.dive < 1
 ·rw [if_pos h3, show decide (1 ≤ v.dive) = false from decide_eq_false (by omega)]; rfl
 rw [if_neg h3, show decide (1 ≤ v.dive) = true from decide_eq_true (by omega)]
 by_cases h4 : v.dive > 131072
 ·rw [if_pos h4, show decide (v.dive ≤ 131072) = false from decide_eq_false (by omega)]; rfl
 rw [if_neg h4, show decide (v.dive ≤ 131072) = true from decide_eq_true (by omega)]
 cases bndB v.use.f0 v.use.f1 0 1073741824
 ·rfl
 cases bndB v.drift.f0 v.drift.f1 0 1073741824
 ·rfl
 by_cases h5 : v.reserve < 0
 ·rw [if_pos h5, show decide (0 ≤ v.reserve) = false from decide_eq_false (by omega)]; rfl
 rw [if_neg h5, show decide (0 ≤ v.reserve) = true from decide_eq_true (by omega)]
 by_cases h6 : v.reserve > 1073741824
 ·rw [if_pos h6, show decide (v.reserve ≤ 1073741824) = false from decide_eq_false (by omega)]; rfl
 rw [if_neg h6, show decide (v.reserve ≤ 1073741824) = true from decide_eq_true (by omega)]; rfl
theorem sea_loop (s : Sea) (hm : 0 ≤ s.most ∧ s.most ≤ 5000) (hl : s.currents.length ≤ 100000) : ∀ (m i K : Nat), i + m = s.currents.length → m + 1 ≤ K →
  isobathref03_CheckSea.l0 K (i : Int) s.nx s.ny s.cell s.slot s.slots s.layers s.most s.shores s.currents = some (if (s.currents.drop i).any (badC s.most) then 2 else 0)
 | 0, i, K + 1, h, hk => by
  rw [isobathref03_CheckSea.l0, if_neg (by omega), List.drop_eq_nil_of_le (by omega)]; rfl
 | m + 1, i, K + 1, h, hk => by
  have hi : i < s.currents.length := by omega
  rw [isobathref03_CheckSea.l0, if_pos (by omega), if_pos (by omega), w64_id (x := -s.most) (by omega), w64_id (x := (i : Int) + 1) (by omega)]
  have e : rd_T40 s.currents (i : Int) = s.currents[i] := by
   unfold rd_T40
   simp [hi]
  rw [e, ref_bounded, Option.bind_some, ref_bounded, Option.bind_some, List.drop_eq_getElem_cons hi, List.any_cons]
  have ih := sea_loop s hm hl m (i + 1) K (by omega) (by omega)
  rw [show ((i + 1 : Nat) : Int) = (i : Int) + 1 from by omega] at ih
  rw [ih, show badC s.most s.currents[i] = (!bndB s.currents[i].f0.f0 s.currents[i].f0.f1 (-s.most) s.most || !bndB s.currents[i].f1.f0 s.currents[i].f1.f1 (-s.most) s.most) from rfl]
  cases bndB s.currents[i].f0.f0 s.currents[i].f0.f1 (-s.most) s.most
  ·rfl
  cases bndB s.currents[i].f1.f0 s.currents[i].f1.f1 (-s.most) s.most
  ·rfl
  rfl
theorem ref_sea (s : Sea) (K : Nat) (hl : s.currents.length ≤ 100000) (hk : s.currents.length + 3 ≤ K) : isobathref03_CheckSea.f K s.nx s.ny s.cell s.slot s.slots s.layers s.most s.shores s.currents = some (seaE s) := by
 obtain ⟨K, rfl⟩ : ∃ k, K = k + 2 := ⟨K - 2, by omega⟩
 have hj : isobathref03_CheckSea.j0 (K + 2) true s.nx s.ny s.cell s.slot s.slots s.layers s.most s.shores s.currents = some 2 := by rw [isobathref03_CheckSea.j0, if_pos rfl]
 unfold isobathref03_CheckSea.f seaE seaB
 rw [hj]
 unfold btwB
 by_cases h1 : s.nx < 1
 ·rw [if_pos h1, show decide (1 ≤ s.nx) = false from decide_eq_false (by omega)]; rfl
 rw [if_neg h1, show decide (1 ≤ s.nx) = true from decide_eq_true (by omega)]
 by_cases h2 : s.nx > 12
 ·rw [if_pos h2, show decide (s.nx ≤ 12) = false from decide_eq_false (by omega)]; rfl
 rw [if_neg h2, show decide (s.nx ≤ 12) = true from decide_eq_true (by omega)]
 by_cases h3 : s.ny < 1
 ·rw [if_pos h3, show decide (1 ≤ s.ny) = false from decide_eq_false (by omega)]; rfl
 rw [if_neg h3, show decide (1 ≤ s.ny) = true from decide_eq_true (by omega)]
 by_cases h4 : s.ny > 12
 ·rw [if_pos h4, show decide (s.ny ≤ 12) = false from decide_eq_false (by omega)]; rfl
 rw [if_neg h4, show decide (s.ny ≤ 12) = true from decide_eq_true (by omega)]
 by_cases h5 : s.cell < 100
 ·rw [if_pos h5, show decide (100 ≤ s.cell) = false from decide_eq_false (by omega)]; rfl
 rw [if_neg h5, show decide (100 ≤ s.cell) = true from decide_eq_true (by omega)]
 by_cases h6 : s.cell > 65536
 ·rw [if_pos h6, show decide (s.cell ≤ 65536) = false from decide_eq_false (by omega)]; rfl
 rw [if_neg h6, show decide (s.cell ≤ 65536) = true from decide_eq_true (by omega)]
 by_cases h7 : s.slot < 1
 ·rw [if_pos h7, show decide (1 ≤ s.slot) = false from decide_eq_false (by omega)]; rfl
 rw [if_neg h7, show decide (1 ≤ s.slot) = true from decide_eq_true (by omega)]
 by_cases h8 : s.slot > 1048576
 ·rw [if_pos h8, show decide (s.slot ≤ 1048576) = false from decide_eq_false (by omega)]; rfl
 rw [if_neg h8, show decide (s.slot ≤ 1048576) = true from decide_eq_true (by omega)]
 by_cases h9 : s.slots < 1
 ·rw [if_pos h9, show decide (1 ≤ s.slots) = false from decide_eq_false (by omega)]; rfl
 rw [if_neg h9, show decide (1 ≤ s.slots) = true from decide_eq_true (by omega)]
 by_cases h10 : s.slots > 16
 ·rw [if_pos h10, show decide (s.slots ≤ 16) = false from decide_eq_false (by omega)]; rfl
 rw [if_neg h10, show decide (s.slots ≤ 16) = true from decide_eq_true (by omega)]
 by_cases h11 : s.layers < 1
 ·rw [if_pos h11, show decide (1 ≤ s.layers) = false from decide_eq_false (by omega)]; rfl
 rw [if_neg h11, show decide (1 ≤ s.layers) = true from decide_eq_true (by omega)]
 by_cases h12 : s.layers > 3
 ·rw [if_pos h12, show decide (s.layers ≤ 3) = false from decide_eq_false (by omega)]; rfl
 rw [if_neg h12, show decide (s.layers ≤ 3) = true from decide_eq_true (by omega)]
 by_cases h13 : s.most < 0
 ·rw [if_pos h13, show decide (0 ≤ s.most) = false from decide_eq_false (by omega)]; rfl
 rw [if_neg h13, show decide (0 ≤ s.most) = true from decide_eq_true (by omega)]
 by_cases h14 : s.most > 5000
 ·rw [show decide (s.most > 5000) = true from decide_eq_true h14, hj, show decide (s.most ≤ 5000) = false from decide_eq_false (by omega)]; rfl
 rw [show decide (s.most > 5000) = false from decide_eq_false h14, show decide (s.most ≤ 5000) = true from decide_eq_true (by omega)]
 obtain ⟨n0, n1⟩ := mul_in (a := s.nx) (b := s.ny) (m := 12) (n := 12) (by omega) (by omega) (by omega) (by omega)
 obtain ⟨m0, m1⟩ := mul_in (a := s.slots) (b := s.layers) (m := 16) (n := 3) (by omega) (by omega) (by omega) (by omega)
 obtain ⟨q0, q1⟩ := mul_in (a := s.slots * s.layers) (b := s.nx * s.ny) (m := 48) (n := 144) (by omega) (by omega) (by omega) (by omega)
 obtain ⟨p0, p1⟩ := mul_in (a := s.slots * s.layers) (b := s.nx) (m := 48) (n := 12) (by omega) (by omega) (by omega) (by omega)
 have ea : s.layers * s.slots = s.slots * s.layers := Int.mul_comm _ _
 have eb : s.slots * s.layers * s.nx * s.ny = s.slots * s.layers * (s.nx * s.ny) := by rw [Int.mul_assoc]
 rw [isobathref03_CheckSea.j0, if_neg (by decide), w64_id (x := s.nx * s.ny) (by omega)]
 by_cases h15 : (s.shores.length : Int) = s.nx * s.ny
 ·rw [if_pos h15, decide_eq_true h15, isobathref03_CheckSea.j1, w64_id (x := s.slots * s.layers) (by omega), w64_id (x := s.slots * s.layers * s.nx) (by omega), eb, w64_id (x := s.slots * s.layers * (s.nx * s.ny)) (by omega)]
  by_cases h16 : (s.currents.length : Int) = s.slots * s.layers * (s.nx * s.ny)
  ·rw [if_neg (by rw [h16]; simp), decide_eq_true h16]
   have := sea_loop s (by omega) hl s.currents.length 0 K (by omega) (by omega)
   rw [show ((0 : Nat) : Int) = 0 from rfl, List.drop_zero] at this
   rw [this]
   cases s.currents.any (badC s.most) <;> rfl
  ·rw [if_pos (by simpa using h16), decide_eq_false h16]; rfl
 ·rw [if_neg h15, decide_eq_false h15, isobathref03_CheckSea.j1, if_pos rfl]; rfl
theorem ref_great (s : Sea) : isobathlaw03_great.f s.nx s.ny s.cell s.slot s.slots s.layers s.most s.shores s.currents = some (decide ((s.shores.length : Int) > 200) || decide ((s.currents.length : Int) > 3000)) := by
 unfold isobathlaw03_great.f
 by_cases h : (s.shores.length : Int) > 200 <;> simp [h]
end Go.Proofs.Ytmhaiihjfgfaoaa.Gl
end
section
/- Hulls of boxes, the cells that a box touches: what grows with what. Plain law, no program. -/
namespace Go.Proofs.Ytmhaiihjfgfaoaa.Gl
open Go.RowKit Go.Proofs.YtmhaiihjfgfaoaaW.PrintWords Go.Proofs.YtmhaiihjfgfaoaaW.PrintLast Go.Proofs.YtmhaiihjfgfaoaaW.PrintMore Go.Proofs.Ytmhaiihjfgfaoaa.Pr
set_option linter.unusedVariables false
/-- A box lies in another. -/
def SubB (a b : S31) : Prop := b.f0.f0 ≤ a.f0.f0 ∧ a.f0.f1 ≤ b.f0.f1 ∧ b.f1.f0 ≤ a.f1.f0 ∧ a.f1.f1 ≤ b.f1.f1
theorem SubB.rfl' (a : S31) : SubB a a := ⟨Int.le_refl _, Int.le_refl _, Int.le_refl _, Int.le_refl _⟩
theorem SubB.trans {a b c : S31} (h : SubB a b) (k : SubB b c) : SubB a c := by unfold SubB at *; omega
theorem SubB.antisymm {a b : S31} (h : SubB a b) (k : SubB b a) : a = b := by
 obtain ⟨⟨a0, a1⟩, ⟨a2, a3⟩⟩ := a
 obtain ⟨⟨b0, b1⟩, ⟨b2, b3⟩⟩ := b
 unfold SubB at *
 dsimp only at h k
 have e0 : a0 = b0 := by omega
 have e1 : a1 = b1 := by omega
 have e2 : a2 = b2 := by omega
 have e3 : a3 = b3 := by omega
 rw [e0, e1, e2, e3]
theorem hullB_up {a b : S31} : SubB a (hullB a b) ∧ SubB b (hullB a b) := by
 unfold SubB hullB
 dsimp only
 omega
theorem hullB_low {a b c : S31} (h : SubB a c) (k : SubB b c) : SubB (hullB a b) c := by
 unfold SubB hullB at *
 dsimp only
 omega
theorem hull_fold : ∀ (l : List S31) (z : S31), ∃ y, l.foldl hullO (some z) = some y ∧ (SubB z y ∧ ∀ a ∈ l, SubB a y) ∧ ∀ b, SubB z b → (∀ a ∈ l, SubB a b) → SubB y b
 | [], z => ⟨z, rfl, ⟨SubB.rfl' z, fun a h => by cases h⟩, fun b h _ => h⟩
 | x :: l, z => by
  obtain ⟨y, h, ⟨h1, h2⟩, h3⟩ := hull_fold l (hullB z x)
  refine ⟨y, h, ⟨hullB_up.1.trans h1, fun a ha => ?_⟩, fun b hb hl => h3 b (hullB_low hb (hl x (List.mem_cons_self ..))) fun a ha => hl a (List.mem_cons_of_mem _ ha)⟩
  rcases List.mem_cons.1 ha with rfl | ha
  ·exact hullB_up.2.trans h1
  ·exact h2 a ha
theorem hull_of {l : List S31} (h : l ≠ []) : ∃ y, hullL l = some y ∧ (∀ a ∈ l, SubB a y) ∧ ∀ b, (∀ a ∈ l, SubB a b) → SubB y b := by
 cases l with
 | nil => exact absurd rfl h
 | cons x l =>
  obtain ⟨y, h, ⟨h1, h2⟩, h3⟩ := hull_fold l x
  refine ⟨y, h, fun a ha => ?_, fun b hl => h3 b (hl x (List.mem_cons_self ..)) fun a ha => hl a (List.mem_cons_of_mem _ ha)⟩
  rcases List.mem_cons.1 ha with rfl | ha
  ·exact h1
  ·exact h2 a ha
theorem outV_mono {l l' : List S31} (h : l ≠ []) (hs : ∀ a ∈ l, ∃ b ∈ l', SubB a b) : SubB (outV l) (outV l') := by
 obtain ⟨y, e, h1, h2⟩ := hull_of h
 have h' : l' ≠ [] := by
  intro e'
  cases l with
  | nil => exact h rfl
  | cons x l =>
   obtain ⟨b, hb, _⟩ := hs x (List.mem_cons_self ..)
   rw [e'] at hb; cases hb
 obtain ⟨y', e', h1', h2'⟩ := hull_of h'
 unfold outV
 rw [e, e']
 exact h2 y' fun a ha => by
  obtain ⟨b, hb, hs⟩ := hs a ha
  exact hs.trans (h1' b hb)
theorem mem_allT {nx i0 k0 c : Int} {n m : Nat} : c ∈ allT nx i0 n k0 m ↔ ∃ r : Nat, r < m ∧ ∃ j : Nat, j < n ∧ c = (k0 + (r : Int)) * nx + (i0 + (j : Int)) := by
 unfold allT rowT
 simp only [List.mem_flatMap, List.mem_range, List.mem_map]
 constructor
 ·rintro ⟨r, hr, j, hj, rfl⟩
  exact ⟨r, hr, j, hj, rfl⟩
 ·rintro ⟨r, hr, j, hj, rfl⟩
  exact ⟨r, hr, j, hj, rfl⟩
/-- The cells of a range of columns and a range of rows. -/
theorem mem_cells {nx a b c d k : Int} : k ∈ allT nx a (b + 1 - a).toNat c (d + 1 - c).toNat ↔ ∃ r i : Int, (c ≤ r ∧ r ≤ d) ∧ (a ≤ i ∧ i ≤ b) ∧ k = r * nx + i := by
 rw [mem_allT]
 constructor
 ·rintro ⟨r, hr, j, hj, rfl⟩
  exact ⟨c + r, a + j, by omega, by omega, rfl⟩
 ·rintro ⟨r, i, hr, hi, rfl⟩
  exact ⟨(r - c).toNat, by omega, (i - a).toNat, by omega, by rw [show c + ((r - c).toNat : Int) = r from by omega, show a + ((i - a).toNat : Int) = i from by omega]⟩
theorem mem_touch {s : Sea} {x : S31} {k : Int} : k ∈ touchL s x ↔ ∃ r i : Int, ((numI s.cell x.f1 s.ny).1 ≤ r ∧ r ≤ (numI s.cell x.f1 s.ny).2) ∧ ((numI s.cell x.f0 s.nx).1 ≤ i ∧ i ≤ (numI s.cell x.f0 s.nx).2) ∧ k = r * s.nx + i := mem_cells
theorem first_le (c x : Int) : firstI c x ≤ x / c ∧ x / c - 1 ≤ firstI c x := by unfold firstI; split <;> omega
theorem num_some {c most : Int} {a : S27} (hc : 0 < c) (h : a.f0 ≤ a.f1) : (numI c a most).1 ≤ (numI c a most).2 := by
 have := (first_le c a.f0).1
 have := Int.ediv_le_ediv hc h
 unfold numI
 dsimp only
 omega
theorem touch_some {s : Sea} {x : S31} (hc : 0 < s.cell) (h0 : x.f0.f0 ≤ x.f0.f1) (h1 : x.f1.f0 ≤ x.f1.f1) : ∃ k, k ∈ touchL s x := by
 have a := num_some (c := s.cell) (most := s.nx) (a := x.f0) hc h0
 have b := num_some (c := s.cell) (most := s.ny) (a := x.f1) hc h1
 exact ⟨_, mem_touch.2 ⟨_, _, ⟨Int.le_refl _, b⟩, ⟨Int.le_refl _, a⟩, rfl⟩⟩
theorem mem_boxes {s : Sea} {x : S31} {layer j0 : Int} {q : Nat} {y : S31} : y ∈ boxesL s x layer j0 q ↔ ∃ r : Nat, r < q ∧ ∃ c ∈ touchL s x, y = curB s layer (j0 + (r : Int)) c := by
 unfold boxesL slotL
 simp only [List.mem_flatMap, List.mem_range, List.mem_map]
 constructor
 ·rintro ⟨r, hr, c, hc, rfl⟩
  exact ⟨r, hr, c, hc, rfl⟩
 ·rintro ⟨r, hr, c, hc, rfl⟩
  exact ⟨r, hr, c, hc, rfl⟩
theorem span_some {t u d : Int} (hd : 0 < d) (h : t < u) : 0 < ((u - 1) / d + 1 - t / d).toNat := by
 have := Int.ediv_le_ediv (a := t) (b := u - 1) hd (by omega)
 omega
theorem grown_ok {s : Sea} {v : Veh} {x : S31} (hS : SeaN s) (hV : VehN v) (hx : BoxOK x) : (grownI s v x).f0.f0 ≤ (grownI s v x).f0.f1 ∧ (grownI s v x).f1.f0 ≤ (grownI s v x).f1.f1 := by
 have := (mul_in (a := v.speed + s.most) (b := v.dive) (m := 10000) (n := 131072) (by have := hV.speed; have := hS.most; omega) (by have := hV.speed; have := hS.most; omega) (by have := hV.dive; omega) hV.dive.2).1
 unfold grownI
 obtain ⟨_, h0, h1⟩ := hx
 dsimp only
 omega
end Go.Proofs.Ytmhaiihjfgfaoaa.Gl
end
section
namespace Go.Proofs.Ytmhaiihjfgfaoaa.Pr
open Go.RowKit Go.Proofs.YtmhaiihjfgfaoaaW.PrintWords Go.Proofs.YtmhaiihjfgfaoaaW.PrintLast Go.Proofs.YtmhaiihjfgfaoaaW.PrintMore
attribute [local go_sem] max2_int min2_int max_two min_two max_four
set_option linter.unusedVariables false
set_option linter.unusedSimpArgs false

/-! ### isobathref03_At: function 24 -/
end Go.Proofs.Ytmhaiihjfgfaoaa.Pr
end
section
/- What the document's answer says of the currents that a box may meet: the same as the program. -/
namespace Go.Proofs.Ytmhaiihjfgfaoaa.Gl
open Go.RowKit Go.Proofs.YtmhaiihjfgfaoaaW.PrintWords Go.Proofs.YtmhaiihjfgfaoaaW.PrintLast Go.Proofs.YtmhaiihjfgfaoaaW.PrintMore Go.Proofs.Ytmhaiihjfgfaoaa.Pr
set_option linter.unusedVariables false
/-- Does a box touch a cell, by the reference's words? -/
def touchR (s : Sea) (x : S31) (c : Int) : Bool := (decide (x.f0.f0 ≤ (c % s.nx + 1) * s.cell) && decide (c % s.nx * s.cell ≤ x.f0.f1)) && (decide (x.f1.f0 ≤ (c / s.nx + 1) * s.cell) && decide (c / s.nx * s.cell ≤ x.f1.f1))
theorem one_dim {c lo hi most i : Int} (hc : 0 < c) (h0 : 0 ≤ lo) (h1 : lo ≤ hi) (h2 : hi ≤ most * c) (hi0 : 0 ≤ i) (hi1 : i ≤ most - 1) :
  (min (firstI c lo) (most - 1) ≤ i ∧ i ≤ min (hi / c) (most - 1)) ↔ (lo ≤ (i + 1) * c ∧ i * c ≤ hi) := by
 have a : i ≤ hi / c ↔ i * c ≤ hi := Int.le_ediv_iff_mul_le hc
 have q0 : 0 ≤ lo / c := Int.ediv_nonneg h0 (by omega)
 have dm := Int.emod_add_mul_ediv lo c
 have m0 := Int.emod_nonneg lo (show c ≠ 0 by omega)
 have b : firstI c lo ≤ i ↔ lo ≤ (i + 1) * c := by
  have e : (i + 1) * c = i * c + c := by rw [Int.add_mul, Int.one_mul]
  unfold firstI
  by_cases hz : lo % c = 0
  ·have hq : (lo / c ≤ i + 1) ↔ lo ≤ (i + 1) * c := by
    constructor
    ·intro h
     have := Int.mul_le_mul_of_nonneg_right h (show 0 ≤ c by omega)
     rw [Int.mul_comm (lo / c) c] at this
     omega
    ·intro h
     have := Int.ediv_le_ediv hc h
     rw [Int.mul_ediv_cancel _ (show c ≠ 0 by omega)] at this
     exact this
   by_cases hp : 0 < lo / c
   ·rw [if_pos ⟨hp, hz⟩, ← hq]; omega
   ·rw [if_neg (fun q => hp q.1), ← hq]; omega
  ·rw [if_neg (fun q => hz q.2)]
   constructor
   ·intro h
    have h' : lo / c < i + 1 := by omega
    have := (Int.ediv_lt_iff_lt_mul hc).1 h'
    omega
   ·intro h
    have h' : lo < (i + 1) * c := by
     rcases Int.lt_or_eq_of_le h with h | h
     ·exact h
     ·exfalso
      apply hz
      rw [h, Int.mul_emod_left]
    have := (Int.ediv_lt_iff_lt_mul hc).2 h'
    omega
 have last : i = most - 1 → lo ≤ (i + 1) * c := by
  intro e
  rw [e, Int.sub_add_cancel]
  omega
 rw [← a, ← b]
 constructor
 ·rintro ⟨h, k⟩
  refine ⟨?_, by omega⟩
  by_cases e : i = most - 1
  ·exact b.2 (last e)
  ·omega
 ·rintro ⟨h, k⟩
  omega
theorem touch_iff {s : Sea} {x : S31} (hN : SeaN s) (hx0 : x.f0.f0 ≤ x.f0.f1) (hx1 : x.f1.f0 ≤ x.f1.f1) (hc : containsI s x = true) {c : Int} : c ∈ touchL s x ↔ (0 ≤ c ∧ c < s.nx * s.ny) ∧ touchR s x c = true := by
 unfold containsI at hc
 simp only [Bool.and_eq_true, decide_eq_true_eq] at hc
 obtain ⟨⟨⟨c0, c1⟩, c2⟩, c3⟩ := hc
 have pc : 0 < s.cell := by have := hN.cell; omega
 have pn : 0 < s.nx := by have := hN.nx; omega
 have pm : 0 < s.ny := by have := hN.ny; omega
 rw [mem_touch]
 unfold touchR
 simp only [Bool.and_eq_true, decide_eq_true_eq]
 have f0 : ∀ lo k : Int, 0 ≤ lo → 0 < k → 0 ≤ (min (firstI s.cell lo) (k - 1)) := by
  intro lo k h hk
  have q0 : 0 ≤ lo / s.cell := Int.ediv_nonneg h (by omega)
  have : 0 ≤ firstI s.cell lo := by unfold firstI; split <;> omega
  omega
 constructor
 ·rintro ⟨r, i, hr, hi, e⟩
  have hi0 : 0 ≤ i := Int.le_trans (f0 _ _ c0 pn) hi.1
  have hr0 : 0 ≤ r := Int.le_trans (f0 _ _ c1 pm) hr.1
  have hi1 : i ≤ s.nx - 1 := by have := hi.2; unfold numI at this; dsimp only at this; omega
  have hr1 : r ≤ s.ny - 1 := by have := hr.2; unfold numI at this; dsimp only at this; omega
  have em : c % s.nx = i := by rw [e, Int.add_comm, Int.add_mul_emod_self_right, Int.emod_eq_of_lt hi0 (by omega)]
  have ed : c / s.nx = r := by rw [e, Int.add_comm, Int.add_mul_ediv_right _ _ (by omega), Int.ediv_eq_zero_of_lt hi0 (by omega), Int.zero_add]
  have p1 : 0 ≤ r * s.nx := Int.mul_nonneg hr0 (by omega)
  have p2 : r * s.nx ≤ (s.ny - 1) * s.nx := Int.mul_le_mul_of_nonneg_right hr1 (by omega)
  have p3 : (s.ny - 1) * s.nx = s.nx * s.ny - s.nx := by rw [Int.sub_mul, Int.mul_comm, Int.one_mul]
  rw [em, ed]
  exact ⟨⟨by omega, by omega⟩, (one_dim pc c0 hx0 c2 hi0 hi1).1 hi, (one_dim pc c1 hx1 c3 hr0 hr1).1 hr⟩
 ·rintro ⟨⟨k0, k1⟩, h0, h1⟩
  have hi0 : 0 ≤ c % s.nx := Int.emod_nonneg _ (by omega)
  have hi1 : c % s.nx ≤ s.nx - 1 := by have := Int.emod_lt_of_pos c pn; omega
  have hr0 : 0 ≤ c / s.nx := Int.ediv_nonneg k0 (by omega)
  have hr1 : c / s.nx ≤ s.ny - 1 := by have := (Int.ediv_lt_iff_lt_mul (a := c) (b := s.ny) pn).2 (by rw [Int.mul_comm]; exact k1); omega
  refine ⟨c / s.nx, c % s.nx, (one_dim pc c1 hx1 c3 hr0 hr1).2 h1, (one_dim pc c0 hx0 c2 hi0 hi1).2 h0, ?_⟩
  have := Int.emod_add_mul_ediv c s.nx
  rw [Int.mul_comm] at this
  omega
/-- The currents that the reference meets in the cells from c on. -/
def refC (s : Sea) (x : S31) (layer j : Int) : Nat → Int → List S31
 | 0, _ => []
 | m + 1, c => (if touchR s x c then [curB s layer j c] else []) ++ refC s x layer j m (c + 1)
def refL (s : Sea) (x : S31) (layer t u : Int) : Nat → Int → List S31
 | 0, _ => []
 | q + 1, j => (if u ≤ j * s.slot ∨ (j + 1) * s.slot ≤ t then [] else refC s x layer j (s.nx * s.ny).toNat 0) ++ refL s x layer t u q (j + 1)
theorem mem_refC {s : Sea} {x : S31} {layer j : Int} {y : S31} : ∀ (m : Nat) (c : Int), y ∈ refC s x layer j m c ↔ ∃ k, (c ≤ k ∧ k < c + (m : Int)) ∧ touchR s x k = true ∧ y = curB s layer j k
 | 0, c => by
  unfold refC
  constructor
  ·intro h; cases h
  ·rintro ⟨k, h, _⟩; omega
 | m + 1, c => by
  unfold refC
  rw [List.mem_append, mem_refC m (c + 1)]
  constructor
  ·rintro (h | ⟨k, h, h1, h2⟩)
   ·by_cases ht : touchR s x c = true
    ·rw [if_pos ht, List.mem_singleton] at h
     exact ⟨c, by omega, ht, h⟩
    ·rw [if_neg ht] at h; cases h
   ·exact ⟨k, by omega, h1, h2⟩
  ·rintro ⟨k, h, h1, h2⟩
   by_cases e : k = c
   ·subst e
    left
    rw [if_pos h1, List.mem_singleton]; exact h2
   ·exact Or.inr ⟨k, by omega, h1, h2⟩
theorem mem_refL {s : Sea} {x : S31} {layer t u : Int} {y : S31} : ∀ (q : Nat) (j : Int), y ∈ refL s x layer t u q j ↔ ∃ i, (j ≤ i ∧ i < j + (q : Int)) ∧ (i * s.slot < u ∧ t < (i + 1) * s.slot) ∧ y ∈ refC s x layer i (s.nx * s.ny).toNat 0
 | 0, j => by
  unfold refL
  constructor
  ·intro h; cases h
  ·rintro ⟨k, h, _⟩; omega
 | q + 1, j => by
  unfold refL
  rw [List.mem_append, mem_refL q (j + 1)]
  constructor
  ·rintro (h | ⟨k, h, h1, h2⟩)
   ·by_cases ht : u ≤ j * s.slot ∨ (j + 1) * s.slot ≤ t
    ·rw [if_pos ht] at h; cases h
    ·rw [if_neg ht] at h
     exact ⟨j, by omega, by omega, h⟩
   ·exact ⟨k, by omega, h1, h2⟩
  ·rintro ⟨k, h, h1, h2⟩
   by_cases e : k = j
   ·subst e
    left
    rw [if_neg (by omega)]; exact h2
   ·exact Or.inr ⟨k, by omega, h1, h2⟩
/-- The reference's currents are the program's. -/
theorem ref_boxes {s : Sea} {x : S31} {layer t u : Int} (hN : SeaN s) (hx0 : x.f0.f0 ≤ x.f0.f1) (hx1 : x.f1.f0 ≤ x.f1.f1) (hc : containsI s x = true) (ht0 : 0 ≤ t) (htu : t < u) (hu : u ≤ s.slots * s.slot) :
  outV (refL s x layer t u s.slots.toNat 0) = atI s x layer t u := by
 have pd : 0 < s.slot := by have := hN.slot; omega
 have ps : 0 < s.slots := by have := hN.slots; omega
 have pnn : 0 ≤ s.nx * s.ny := Int.mul_nonneg (by have := hN.nx; omega) (by have := hN.ny; omega)
 have pc : 0 < s.cell := by have := hN.cell; omega
 have hm : ∀ y, y ∈ refL s x layer t u s.slots.toNat 0 ↔ y ∈ boxesL s x layer (t / s.slot) ((u - 1) / s.slot + 1 - t / s.slot).toNat := by
  intro y
  rw [mem_refL, mem_boxes]
  constructor
  ·rintro ⟨i, hi, ⟨h1, h2⟩, hy⟩
   obtain ⟨k, hk, hk1, e⟩ := (mem_refC _ _).1 hy
   have a1 : i ≤ (u - 1) / s.slot := (Int.le_ediv_iff_mul_le pd).2 (by omega)
   have a2 : t / s.slot < i + 1 := (Int.ediv_lt_iff_lt_mul pd).2 h2
   refine ⟨(i - t / s.slot).toNat, by omega, k, (touch_iff hN hx0 hx1 hc).2 ⟨by omega, hk1⟩, ?_⟩
   rw [show t / s.slot + ((i - t / s.slot).toNat : Int) = i from by omega]; exact e
  ·rintro ⟨r, hr, c, hc', e⟩
   obtain ⟨h0, h1⟩ := (touch_iff hN hx0 hx1 hc).1 hc'
   have t0 : 0 ≤ t / s.slot := Int.ediv_nonneg ht0 (by omega)
   have a1 : (t / s.slot + (r : Int)) * s.slot ≤ u - 1 := (Int.le_ediv_iff_mul_le pd).1 (by omega)
   have a2 : t < (t / s.slot + (r : Int) + 1) * s.slot := (Int.ediv_lt_iff_lt_mul pd).1 (by omega)
   have a3 : t / s.slot + (r : Int) < s.slots := by
    by_cases h : t / s.slot + (r : Int) < s.slots
    ·exact h
    ·exfalso
     have := Int.mul_le_mul_of_nonneg_right (show s.slots ≤ t / s.slot + (r : Int) by omega) (show 0 ≤ s.slot by omega)
     omega
   exact ⟨t / s.slot + (r : Int), by omega, ⟨by omega, a2⟩, (mem_refC _ _).2 ⟨c, by omega, h1, e⟩⟩
 obtain ⟨k, hk⟩ := touch_some (s := s) pc hx0 hx1
 have hne : boxesL s x layer (t / s.slot) ((u - 1) / s.slot + 1 - t / s.slot).toNat ≠ [] := List.ne_nil_of_mem (mem_boxes.2 ⟨0, span_some pd htu, k, hk, rfl⟩)
 have hne' : refL s x layer t u s.slots.toNat 0 ≠ [] := List.ne_nil_of_mem ((hm _).2 (mem_boxes.2 ⟨0, span_some pd htu, k, hk, rfl⟩))
 exact SubB.antisymm (outV_mono hne' fun a ha => ⟨a, (hm a).1 ha, SubB.rfl' a⟩) (outV_mono hne fun a ha => ⟨a, (hm a).2 ha, SubB.rfl' a⟩)
theorem ref_cell (s : Sea) (hN : SeaN s) (c : Int) (h0 : 0 ≤ c) (h1 : c < s.nx * s.ny) : isobathref03_Cell.f s.nx s.ny s.cell s.slot s.slots s.layers s.most s.shores s.currents c = some (c % s.nx * s.cell, (c % s.nx + 1) * s.cell, c / s.nx * s.cell, (c / s.nx + 1) * s.cell) := by
 have pn : 0 < s.nx := by have := hN.nx; omega
 have hi0 : 0 ≤ c % s.nx := Int.emod_nonneg _ (by omega)
 have hi1 : c % s.nx < s.nx := Int.emod_lt_of_pos c pn
 have hr0 : 0 ≤ c / s.nx := Int.ediv_nonneg h0 (by omega)
 have hr1 : c / s.nx < s.ny := (Int.ediv_lt_iff_lt_mul (a := c) (b := s.ny) pn).2 (by rw [Int.mul_comm]; exact h1)
 have n1 := hN.nx; have n2 := hN.ny; have n3 := hN.cell
 obtain ⟨a0, a1⟩ := mul_in (a := c % s.nx) (b := s.cell) (m := 12) (n := 65536) (by omega) (by omega) (by omega) (by omega)
 obtain ⟨b0, b1⟩ := mul_in (a := c % s.nx + 1) (b := s.cell) (m := 12) (n := 65536) (by omega) (by omega) (by omega) (by omega)
 obtain ⟨d0, d1⟩ := mul_in (a := c / s.nx) (b := s.cell) (m := 12) (n := 65536) (by omega) (by omega) (by omega) (by omega)
 obtain ⟨e0, e1⟩ := mul_in (a := c / s.nx + 1) (b := s.cell) (m := 12) (n := 65536) (by omega) (by omega) (by omega) (by omega)
 unfold isobathref03_Cell.f
 rw [if_neg (by omega), Int.tmod_eq_emod_of_nonneg h0, Int.tdiv_eq_ediv_of_nonneg h0, w64_id (x := c / s.nx) (by omega), w64_id (x := c % s.nx + 1) (by omega), w64_id (x := c / s.nx + 1) (by omega), w64_id (x := c % s.nx * s.cell) (by omega), w64_id (x := (c % s.nx + 1) * s.cell) (by omega), w64_id (x := c / s.nx * s.cell) (by omega), w64_id (x := (c / s.nx + 1) * s.cell) (by omega)]
theorem ref_touches (x : S31) (a b c d : Int) : isobathref03_touches.f x.f0.f0 x.f0.f1 x.f1.f0 x.f1.f1 a b c d = some ((decide (x.f0.f0 ≤ b) && decide (a ≤ x.f0.f1)) && (decide (x.f1.f0 ≤ d) && decide (c ≤ x.f1.f1))) := by
 unfold isobathref03_touches.f isobathref03_common.f
 by_cases h1 : x.f0.f0 ≤ b <;> by_cases h2 : a ≤ x.f0.f1 <;> by_cases h3 : x.f1.f0 ≤ d <;> simp [h1, h2, h3]
theorem isEmpty_snoc (l : List S31) (y : S31) : (!(l ++ [y]).isEmpty) = true := by cases l <;> rfl
theorem outV_snoc (l : List S31) (y : S31) : outV (l ++ [y]) = if (!l.isEmpty) = true then hullB (outV l) y else y := by
 unfold outV
 cases hl : l with
 | nil => rfl
 | cons a r =>
  obtain ⟨z, e, _⟩ := hull_of (l := a :: r) (by simp)
  rw [hullL_snoc, e]; rfl
theorem ref_cells (s : Sea) (x : S31) (layer t u j : Int) (hN : SeaN s) (hcu : (s.currents.length : Int) = s.slots * s.layers * (s.nx * s.ny)) (hl0 : 0 ≤ layer) (hl1 : layer < s.layers) (hj0 : 0 ≤ j) (hj1 : j < s.slots) : ∀ (m : Nat) (c : Int) (k : Nat) (l : List S31), 0 ≤ c → c + (m : Int) = s.nx * s.ny →
  isobathref03_at.l1 (m + 1 + k) layer t u (!l.isEmpty) j c s.nx s.ny s.cell s.slot s.slots s.layers s.most s.shores s.currents x.f0.f0 x.f0.f1 x.f1.f0 x.f1.f1 (outV l).f0.f0 (outV l).f0.f1 (outV l).f1.f0 (outV l).f1.f1
   = isobathref03_at.l0 k layer t u (!(l ++ refC s x layer j m c).isEmpty) (j + 1) s.nx s.ny s.cell s.slot s.slots s.layers s.most s.shores s.currents x.f0.f0 x.f0.f1 x.f1.f0 x.f1.f1 (outV (l ++ refC s x layer j m c)).f0.f0 (outV (l ++ refC s x layer j m c)).f0.f1 (outV (l ++ refC s x layer j m c)).f1.f0 (outV (l ++ refC s x layer j m c)).f1.f1
 | 0, c, k, l, h0, h => by
  have n1 := hN.nx; have n2 := hN.ny; have n5 := hN.slots
  obtain ⟨p0, p1⟩ := mul_in (a := s.nx) (b := s.ny) (m := 12) (n := 12) (by omega) (by omega) (by omega) (by omega)
  rw [show 0 + 1 + k = k + 1 from by omega, isobathref03_at.l1, w64_id (x := s.nx * s.ny) (by omega), if_neg (by omega), w64_id (x := j + 1) (by omega), refC, List.append_nil]
 | m + 1, c, k, l, h0, h => by
  have n1 := hN.nx; have n2 := hN.ny; have n5 := hN.slots; have n6 := hN.layers
  obtain ⟨p0, p1⟩ := mul_in (a := s.nx) (b := s.ny) (m := 12) (n := 12) (by omega) (by omega) (by omega) (by omega)
  obtain ⟨i0, i1⟩ := index_in (q := j) (l := layer) (k := s.nx * s.ny) (c := c) (ll := s.slots) (kk := s.layers) hj0 hj1 hl0 hl1 h0 (by omega)
  obtain ⟨a0, a1⟩ := mul_in (a := j) (b := s.layers) (m := 16) (n := 3) (by omega) (by omega) (by omega) (by omega)
  obtain ⟨b0, b1⟩ := mul_in (a := j * s.layers + layer) (b := s.nx) (m := 51) (n := 12) (by omega) (by omega) (by omega) (by omega)
  obtain ⟨d0, d1⟩ := mul_in (a := (j * s.layers + layer) * s.nx) (b := s.ny) (m := 612) (n := 12) (by omega) (by omega) (by omega) (by omega)
  have hidx : wrap64 (wrap64 (wrap64 (wrap64 (wrap64 (j * s.layers) + layer) * s.nx) * s.ny) + c) = (j * s.layers + layer) * (s.nx * s.ny) + c := by
   rw [w64_id (x := j * s.layers) (by omega), w64_id (x := j * s.layers + layer) (by omega), w64_id (x := (j * s.layers + layer) * s.nx) (by omega), w64_id (x := (j * s.layers + layer) * s.nx * s.ny) (by omega), Int.mul_assoc (j * s.layers + layer) s.nx s.ny]
   rw [Int.mul_assoc] at d0 d1
   exact w64_id (by omega)
  rw [show m + 1 + 1 + k = (m + 1 + k) + 1 from by omega, isobathref03_at.l1, w64_id (x := s.nx * s.ny) (by omega), if_pos (by omega), ref_cell s hN c h0 (by omega), Option.bind_some, ref_touches, Option.bind_some, hidx, w64_id (x := c + 1) (by omega)]
  have et : ((decide (x.f0.f0 ≤ (c % s.nx + 1) * s.cell) && decide (c % s.nx * s.cell ≤ x.f0.f1)) && (decide (x.f1.f0 ≤ (c / s.nx + 1) * s.cell) && decide (c / s.nx * s.cell ≤ x.f1.f1))) = touchR s x c := rfl
  rw [et, refC]
  by_cases ht : touchR s x c = true
  ·rw [if_pos ht, if_pos ht, if_pos i0, if_pos (by omega), ← List.append_assoc]
   have ih := ref_cells s x layer t u j hN hcu hl0 hl1 hj0 hj1 m (c + 1) k (l ++ [curB s layer j c]) (by omega) (by omega)
   rw [← ih, isEmpty_snoc, outV_snoc]
   by_cases he : (!l.isEmpty) = true
   ·rw [if_pos he, if_pos he]
    unfold isobathref03_hull.f
    rw [Option.bind_some, Option.bind_some, mn_min', mx_max', mn_min', mx_max']
    rfl
   ·rw [if_neg he, if_neg he]
    rfl
  ·rw [if_neg ht, if_neg ht, List.nil_append]
   exact ref_cells s x layer t u j hN hcu hl0 hl1 hj0 hj1 m (c + 1) k l (by omega) (by omega)
theorem ref_slots (s : Sea) (x : S31) (layer t u : Int) (hN : SeaN s) (hcu : (s.currents.length : Int) = s.slots * s.layers * (s.nx * s.ny)) (hl0 : 0 ≤ layer) (hl1 : layer < s.layers) : ∀ (q : Nat) (j : Int) (k : Nat) (l : List S31), 0 ≤ j → j + (q : Int) = s.slots → q * 147 + 1 ≤ k →
  isobathref03_at.l0 k layer t u (!l.isEmpty) j s.nx s.ny s.cell s.slot s.slots s.layers s.most s.shores s.currents x.f0.f0 x.f0.f1 x.f1.f0 x.f1.f1 (outV l).f0.f0 (outV l).f0.f1 (outV l).f1.f0 (outV l).f1.f1
   = some ((outV (l ++ refL s x layer t u q j)).f0.f0, (outV (l ++ refL s x layer t u q j)).f0.f1, (outV (l ++ refL s x layer t u q j)).f1.f0, (outV (l ++ refL s x layer t u q j)).f1.f1)
 | 0, j, k + 1, l, h0, h, hk => by
  rw [isobathref03_at.l0, if_neg (by omega), refL, List.append_nil]
 | q + 1, j, k + 1, l, h0, h, hk => by
  obtain ⟨k, rfl⟩ : ∃ z, k = z + 1 := ⟨k - 1, by omega⟩
  have n1 := hN.nx; have n2 := hN.ny; have n5 := hN.slots; have n4 := hN.slot
  obtain ⟨p0, p1⟩ := mul_in (a := s.nx) (b := s.ny) (m := 12) (n := 12) (by omega) (by omega) (by omega) (by omega)
  obtain ⟨a0, a1⟩ := mul_in (a := j) (b := s.slot) (m := 16) (n := 1048576) (by omega) (by omega) (by omega) (by omega)
  obtain ⟨b0, b1⟩ := mul_in (a := j + 1) (b := s.slot) (m := 17) (n := 1048576) (by omega) (by omega) (by omega) (by omega)
  rw [isobathref03_at.l0, if_pos (by omega), w64_id (x := j * s.slot) (by omega), w64_id (x := j + 1) (by omega), w64_id (x := (j + 1) * s.slot) (by omega), refL]
  have ih := fun k l => ref_slots s x layer t u hN hcu hl0 hl1 q (j + 1) k l (by omega) (by omega)
  by_cases h1 : j * s.slot ≥ u
  ·rw [if_pos h1, if_pos (Or.inl h1), isobathref03_at.j1, if_pos rfl, w64_id (x := j + 1) (by omega), List.nil_append]
   exact ih k l (by omega)
  ·rw [if_neg h1]
   by_cases h2 : (j + 1) * s.slot ≤ t
   ·rw [decide_eq_true h2, if_pos (Or.inr h2), isobathref03_at.j1, if_pos rfl, w64_id (x := j + 1) (by omega), List.nil_append]
    exact ih k l (by omega)
   ·rw [decide_eq_false h2, if_neg (by omega), isobathref03_at.j1, if_neg (by decide), ← List.append_assoc]
    obtain ⟨k2, e⟩ : ∃ z, k = (s.nx * s.ny).toNat + 1 + z := ⟨k - (s.nx * s.ny).toNat - 1, by omega⟩
    rw [e, ref_cells s x layer t u j hN hcu hl0 hl1 h0 (by omega) (s.nx * s.ny).toNat 0 k2 l (Int.le_refl _) (by omega)]
    exact ih k2 _ (by omega)
end Go.Proofs.Ytmhaiihjfgfaoaa.Gl
end
section
/- What the document's answer says of plans: the same as the program. -/
namespace Go.Proofs.Ytmhaiihjfgfaoaa.Gl
open Go.RowKit Go.Proofs.YtmhaiihjfgfaoaaW.PrintWords Go.Proofs.YtmhaiihjfgfaoaaW.PrintLast Go.Proofs.YtmhaiihjfgfaoaaW.PrintMore Go.Proofs.Ytmhaiihjfgfaoaa.Pr
theorem ref_crs_loop (l : List S33) (layers : Int) (hl : l.length ≤ 64) : ∀ (m i K : Nat), i + m = l.length → m + 1 ≤ K → isobathref03_courses.l0 K l layers (i : Int) = some (if (l.drop i).all (crsB layers) then 0 else 2)
 | 0, i, K + 1, h, hk => by
  rw [isobathref03_courses.l0, if_neg (by omega), List.drop_eq_nil_of_le (by omega)]; rfl
 | m + 1, i, K + 1, h, hk => by
  have hi : i < l.length := by omega
  have ih := ref_crs_loop l layers hl m (i + 1) K (by omega) (by omega)
  have e : rd_T33 l (i : Int) = l[i] := by
   unfold rd_T33
   simp [hi]
  rw [isobathref03_courses.l0, if_pos (by omega), if_pos (by omega), w64_id (x := (i : Int) + 1) (by omega), show (i : Int) + 1 = ((i + 1 : Nat) : Int) from by omega, ih, e, List.drop_eq_getElem_cons hi, List.all_cons]
  generalize l[i] = c
  generalize (List.drop (i + 1) l).all (crsB layers) = b
  unfold crsB btwB
  by_cases h1 : c.f0 < 0
  ·rw [if_pos h1, decide_eq_false (show ¬(0 ≤ c.f0) by omega)]; rfl
  rw [if_neg h1, decide_eq_true (show 0 ≤ c.f0 by omega)]
  by_cases h2 : c.f0 > 8
  ·rw [if_pos h2, decide_eq_false (show ¬(c.f0 ≤ 8) by omega)]; rfl
  rw [if_neg h2, decide_eq_true (show c.f0 ≤ 8 by omega)]
  by_cases h3 : c.f1 < 0
  ·rw [if_pos h3, decide_eq_false (show ¬(0 ≤ c.f1) by omega)]; rfl
  rw [if_neg h3, decide_eq_true (show 0 ≤ c.f1 by omega)]
  by_cases h4 : layers ≥ 0
  ·rw [if_pos h4, decide_eq_false (show ¬(layers < 0) by omega)]
   by_cases h5 : c.f1 ≥ layers
   ·rw [if_pos h5, decide_eq_false (show ¬(c.f1 < layers) by omega)]; rfl
   ·rw [if_neg h5, decide_eq_true (show c.f1 < layers by omega)]; rfl
  ·rw [if_neg h4, decide_eq_true (show layers < 0 by omega)]; rfl
theorem ref_crs (l : List S33) (layers : Int) (K : Nat) (hk : 66 ≤ K) : isobathref03_courses.f K l layers = some (crsE l layers) := by
 unfold isobathref03_courses.f crsE
 by_cases h : l.length > 64
 ·rw [if_pos (by omega), if_pos h]
 ·rw [if_neg (by omega), if_neg h]
  have := ref_crs_loop l layers (by omega) l.length 0 K (by omega) (by omega)
  rw [List.drop_zero] at this
  exact this
end Go.Proofs.Ytmhaiihjfgfaoaa.Gl
end
