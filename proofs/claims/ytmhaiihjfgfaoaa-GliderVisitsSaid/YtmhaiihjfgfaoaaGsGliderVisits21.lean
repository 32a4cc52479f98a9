/- Part 21 of the proof of GliderVisits: what the functions compute. No condition. -/
import Derived.Test.YtmhaiihjfgfaoaaGsGliderVisits3
import Derived.Test.YtmhaiihjfgfaoaaGsGliderVisits12
import Derived.Test.YtmhaiihjfgfaoaaGsGliderVisits20
import Derived.Test.YtmhaiihjfgfaoaaGsGliderVisits14
import Derived.Test.YtmhaiihjfgfaoaaGsGliderVisits18
import Derived.Test.YtmhaiihjfgfaoaaGsGliderVisits15
import Derived.Test.YtmhaiihjfgfaoaaGsGliderVisits19
section
/- What the document's answer says of seas, vehicles and boxes: the same as the program. -/
namespace Go.Proofs.Ytmhaiihjfgfaoaa.Gl
open Go.RowKit Go.Proofs.YtmhaiihjfgfaoaaW.PrintWords Go.Proofs.YtmhaiihjfgfaoaaW.PrintLast Go.Proofs.YtmhaiihjfgfaoaaW.PrintMore Go.Proofs.Ytmhaiihjfgfaoaa.Pr
set_option linter.unusedVariables false
theorem w64_id {x : Int} (h : -9223372036854775808 ≤ x ∧ x < 9223372036854775808) : wrap64 x = x := by unfold wrap64; omega
theorem ref_valid (lo hi : Int) : isobathref01_Valid.f lo hi = some (okS lo hi) := by
 unfold isobathref01_Valid.f isobathref01_Within.f
 rw [show okS lo hi = (decide (lo ≤ hi) && (decide (-1073741824 ≤ lo) && decide (lo ≤ 1073741824)) && (decide (-1073741824 ≤ hi) && decide (hi ≤ 1073741824))) from by
  rw [Bool.eq_iff_iff, okS_iff]; simp only [Bool.and_eq_true, decide_eq_true_eq]; omega]
 by_cases h1 : lo ≤ hi <;> by_cases h2 : -1073741824 ≤ lo <;> by_cases h3 : lo ≤ 1073741824 <;> by_cases h4 : -1073741824 ≤ hi <;> by_cases h5 : hi ≤ 1073741824 <;> simp [h1, h2, h3, h4, h5]
theorem ref_bounded (lo hi a b : Int) : isobathref03_bounded.f lo hi a b = some (bndB lo hi a b) := by
 unfold isobathref03_bounded.f bndB
 rw [ref_valid, Option.bind_some]
 cases okS lo hi with
 | false => rfl
 | true =>
  by_cases h : a ≤ lo <;> simp [h]
theorem ref_within (x lo hi : Int) : isobathref01_Within.f x lo hi = some (btwB x lo hi) := by
 unfold isobathref01_Within.f btwB
 by_cases h : lo ≤ x <;> simp [h]
theorem ref_box (x : S31) : isobathref01_ValidBox.f x.f0.f0 x.f0.f1 x.f1.f0 x.f1.f1 = some (boxB x) := by
 unfold isobathref01_ValidBox.f boxB
 simp only [ref_valid, ref_within, Option.bind_some]
 cases okS x.f0.f0 x.f0.f1 <;> cases okS x.f1.f0 x.f1.f1 <;> cases btwB x.f0.f0 (-268435456) 268435456 <;> cases btwB x.f0.f1 (-268435456) 268435456 <;> cases btwB x.f1.f0 (-268435456) 268435456 <;> cases btwB x.f1.f1 (-268435456) 268435456 <;> rfl
theorem sea_loop (s : Sea) (hm : 0 ≤ s.most ∧ s.most ≤ 5000) (hl : s.currents.length ≤ 100000) : ∀ (m i K : Nat), i + m = s.currents.length → m + 1 ≤ K →
  isobathref03_CheckSea.l0 K (i : Int) s.nx s.ny s.cell s.slot s.slots s.layers s.most s.shores s.currents = some (if (s.currents.drop i).any (badC s.most) then 2 else 0)
 | 0, i, K + 1, h, hk => by
  rw [isobathref03_CheckSea.l0, if_neg (by omega), List.drop_eq_nil_of_le (by omega)]; rfl
 | m + 1, i, K + 1, h, hk => by
  have hi : i < s.currents.length := by omega
  rw [isobathref03_CheckSea.l0, if_pos (by omega), if_pos (by omega), w64_id (x := -s.most) (by omega), w64_id (x := (i : Int) + 1) (by omega)]
  have e : rd_T40 s.currents (i : Int) = s.currents[i] := by
   unfold rd_T40
   simp [hi]
  rw [e, ref_bounded, Option.bind_some, ref_bounded, Option.bind_some, List.drop_eq_getElem_cons hi, List.any_cons]
  have ih := sea_loop s hm hl m (i + 1) K (by omega) (by omega)
  rw [show ((i + 1 : Nat) : Int) = (i : Int) + 1 from by omega] at ih
  rw [ih, show badC s.most s.currents[i] = (!bndB s.currents[i].f0.f0 s.currents[i].f0.f1 (-s.most) s.most || !bndB s.currents[i].f1.f0 s.currents[i].f1.f1 (-s.most) s.most) from rfl]
  cases bndB s.currents[i].f0.f0 s.currents[i].f0.f1 (-s.most) s.most
  ·rfl
  cases bndB s.currents[i].f1.f0 s.currents[i].f1.f1 (-s.most) s.most
  ·rfl
  rfl
theorem ref_sea (s : Sea) (K : Nat) (hl : s.currents.length ≤ 100000) (hk : s.currents.length + 3 ≤ K) : isobathref03_CheckSea.f K s.nx s.ny s.cell s.slot s.slots s.layers s.most s.shores s.currents = some (seaE s) := by
 obtain ⟨K, rfl⟩ : ∃ k, K = k + 2 := ⟨K - 2, by omega⟩
 have hj : isobathref03_CheckSea.j0 (K + 2) true s.nx s.ny s.cell s.slot s.slots s.layers s.most s.shores s.currents = some 2 := by rw [isobathref03_CheckSea.j0, if_pos rfl]
 unfold isobathref03_CheckSea.f seaE seaB
 rw [hj]
 unfold btwB
 by_cases h1 : s.nx < 1
 ·rw [if_pos h1, show decide (1 ≤ s.nx) = false from decide_eq_false (by omega)]; rfl
 rw [if_neg h1, show decide (1 ≤ s.nx) = true from decide_eq_true (by omega)]
 by_cases h2 : s.nx > 12
 ·rw [if_pos h2, show decide (s.nx ≤ 12) = false from decide_eq_false (by omega)]; rfl
 rw [if_neg h2, show decide (s.nx ≤ 12) = true from decide_eq_true (by omega)]
 by_cases h3 : s.ny < 1
 ·rw [if_pos h3, show decide (1 ≤ s.ny) = false from decide_eq_false (by omega)]; rfl
 rw [if_neg h3, show decide (1 ≤ s.ny) = true from decide_eq_true (by omega)]
 by_cases h4 : s.ny > 12
 ·rw [if_pos h4, show decide (s.ny ≤ 12) = false from decide_eq_false (by omega)]; rfl
 rw [if_neg h4, show decide (s.ny ≤ 12) = true from decide_eq_true (by omega)]
 by_cases h5 : s.cell < 100
 ·rw [if_pos h5, show decide (100 ≤ s.cell) = false from decide_eq_false (by omega)]; rfl
 rw [if_neg h5, show decide (100 ≤ s.cell) = true from decide_eq_true (by omega)]
 by_cases h6 : s.cell > 65536
 ·rw [if_pos h6, show decide (s.cell ≤ 65536) = false from decide_eq_false (by omega)]; rfl
 rw [if_neg h6, show decide (s.cell ≤ 65536) = true from decide_eq_true (by omega)]
 by_cases h7 : s.slot < 1
 ·rw [if_pos h7, show decide (1 ≤ s.slot) = false from decide_eq_false (by omega)]; rfl
 rw [if_neg h7, show decide (1 ≤ s.slot) = true from decide_eq_true (by omega)]
 by_cases h8 : s.slot > 1048576
 ·rw [if_pos h8, show decide (s.slot ≤ 1048576) = false from decide_eq_false (by omega)]; rfl
 rw [if_neg h8, show decide (s.slot ≤ 1048576) = true from decide_eq_true (by omega)]
 by_cases h9 : s.slots < 1
 ·rw [if_pos h9, show decide (1 ≤ s.slots) = false from decide_eq_false (by omega)]; rfl
 rw [if_neg h9, show decide (1 ≤ s.slots) = true from decide_eq_true (by omega)]
 by_cases h10 : s.slots > 16
 ·rw [if_pos h10, show decide (s.slots ≤ 16) = false from decide_eq_false (by omega)]; rfl
 rw [if_neg h10, show decide (s.slots ≤ 16) = true from decide_eq_true (by omega)]
 by_cases h11 : s.layers < 1
 ·rw [if_pos h11, show decide (1 ≤ s.layers) = false from decide_eq_false (by omega)]; rfl
 rw [if_neg h11, show decide (1 ≤ s.layers) = true from decide_eq_true (by omega)]
 by_cases h12 : s.layers > 3
 ·rw [if_pos h12, show decide (s.layers ≤ 3) = false from decide_eq_false (by omega)]; rfl
 rw [if_neg h12, show decide (s.layers ≤ 3) = true from decide_eq_true (by omega)]
 by_cases h13 : s.most < 0
 ·rw [if_pos h13, show decide (0 ≤ s.most) = false from decide_eq_false (by omega)]; rfl
 rw [if_neg h13, show decide (0 ≤ s.most) = true from decide_eq_true (by omega)]
 by_cases h14 : s.most > 5000
 ·rw [show decide (s.most > 5000) = true from decide_eq_true h14, hj, show decide (s.most ≤ 5000) = false from decide_eq_false (by omega)]; rfl
 rw [show decide (s.most > 5000) = false from decide_eq_false h14, show decide (s.most ≤ 5000) = true from decide_eq_true (by omega)]
 obtain ⟨n0, n1⟩ := mul_in (a := s.nx) (b := s.ny) (m := 12) (n := 12) (by omega) (by omega) (by omega) (by omega)
 obtain ⟨m0, m1⟩ := mul_in (a := s.slots) (b := s.layers) (m := 16) (n := 3) (by omega) (by omega) (by omega) (by omega)
 obtain ⟨q0, q1⟩ := mul_in (a := s.slots * s.layers) (b := s.nx * s.ny) (m := 48) (n := 144) (by omega) (by omega) (by omega) (by omega)
 obtain ⟨p0, p1⟩ := mul_in (a := s.slots * s.layers) (b := s.nx) (m := 48) (n := 12) (by omega) (by omega) (by omega) (by omega)
 have ea : s.layers * s.slots = s.slots * s.layers := Int.mul_comm _ _
 have eb : s.slots * s.layers * s.nx * s.ny = s.slots * s.layers * (s.nx * s.ny) := by rw [Int.mul_assoc]
 rw [isobathref03_CheckSea.j0, if_neg (by decide), w64_id (x := s.nx * s.ny) (by omega)]
 by_cases h15 : (s.shores.length : Int) = s.nx * s.ny
 ·rw [if_pos h15, decide_eq_true h15, isobathref03_CheckSea.j1, w64_id (x := s.slots * s.layers) (by omega), w64_id (x := s.slots * s.layers * s.nx) (by omega), eb, w64_id (x := s.slots * s.layers * (s.nx * s.ny)) (by omega)]
  by_cases h16 : (s.currents.length : Int) = s.slots * s.layers * (s.nx * s.ny)
  ·rw [if_neg (by rw [h16]; simp), decide_eq_true h16]
   have := sea_loop s (by omega) hl s.currents.length 0 K (by omega) (by omega)
   rw [show ((0 : Nat) : Int) = 0 from rfl, List.drop_zero] at this
   rw [this]
   cases s.currents.any (badC s.most) <;> rfl
  ·rw [if_pos (by simpa using h16), decide_eq_false h16]; rfl
 ·rw [if_neg h15, decide_eq_false h15, isobathref03_CheckSea.j1, if_pos rfl]; rfl
theorem ref_great (s : Sea) : isobathlaw03_great.f s.nx s.ny s.cell s.slot s.slots s.layers s.most s.shores s.currents = some (decide ((s.shores.length : Int) > 200) || decide ((s.currents.length : Int) > 3000)) := by
 unfold isobathlaw03_great.f
 by_cases h : (s.shores.length : Int) > 200 <;> simp [h]
end Go.Proofs.Ytmhaiihjfgfaoaa.Gl
end
section
/- What the document's answer says of boxes in boxes: the same as the program. -/
namespace Go.Proofs.Ytmhaiihjfgfaoaa.Gl
open Go.RowKit Go.Proofs.YtmhaiihjfgfaoaaW.PrintWords Go.Proofs.YtmhaiihjfgfaoaaW.PrintLast Go.Proofs.YtmhaiihjfgfaoaaW.PrintMore Go.Proofs.Ytmhaiihjfgfaoaa.Pr
theorem ref_In (a b : S27) (K : Nat) (hk : 2 ≤ K) : isobathref01_In.f K a.f0 a.f1 b.f0 b.f1 = some (inI a b, inE a b) := by
 obtain ⟨K, rfl⟩ : ∃ z, K = z + 2 := ⟨K - 2, by omega⟩
 unfold isobathref01_In.f inI inE
 rw [ref_valid, ref_valid, Option.bind_some, Option.bind_some]
 cases ha : okS a.f0 a.f1 with
 | false => rfl
 | true =>
  cases hb : okS b.f0 b.f1 with
  | false => rfl
  | true =>
   have h1 := okS_iff.1 ha
   have h2 := okS_iff.1 hb
   rw [if_pos rfl, isobathref01_In.j0, if_neg (by decide), if_pos (show (true && true) = true from rfl), if_pos (show (true && true) = true from rfl)]
   by_cases q1 : a.f0 ≥ b.f0
   ·rw [if_pos q1, isobathref01_In.j1]
    by_cases q2 : a.f1 ≤ b.f1
    ·rw [if_pos (decide_eq_true q2), if_pos (by omega), if_pos (by omega)]
    ·rw [if_neg (by simp only [decide_eq_true_eq]; exact q2), if_neg (by omega)]
     by_cases q3 : a.f0 > b.f1
     ·rw [if_pos q3, if_neg (by omega)]
     ·rw [if_neg q3, if_pos (by omega), if_neg (by omega)]
   ·rw [if_neg q1, isobathref01_In.j1, if_neg (by decide)]
    by_cases q3 : a.f1 < b.f0
    ·rw [if_pos q3, if_neg (by omega)]
    ·rw [if_neg q3]
     by_cases q4 : a.f0 > b.f1
     ·rw [if_pos q4, if_neg (by omega)]
     ·rw [if_neg q4, if_pos (by omega), if_neg (by omega)]
theorem ref_Inside (x y : S31) (K : Nat) (hk : 2 ≤ K) : isobathref03_Inside.f K x.f0.f0 x.f0.f1 x.f1.f0 x.f1.f1 y.f0.f0 y.f0.f1 y.f1.f0 y.f1.f1 = some (insI x y) := by
 unfold isobathref03_Inside.f insI
 rw [ref_In _ _ K hk, Option.bind_some, ref_In _ _ K hk, Option.bind_some]
 dsimp only
 rw [mn_min']
theorem ref_boxesE_loop (l : List S31) (hl : l.length ≤ 64) : ∀ (m i K : Nat), i + m = l.length → m + 1 ≤ K → isobathref03_boxes.l0 K l (i : Int) = some (if (l.drop i).any (fun x => !boxB x) then 2 else 0)
 | 0, i, K + 1, h, hk => by
  rw [isobathref03_boxes.l0, if_neg (by omega), List.drop_eq_nil_of_le (by omega)]; rfl
 | m + 1, i, K + 1, h, hk => by
  have hi : i < l.length := by omega
  have e : rd_T31 l (i : Int) = l[i] := by
   unfold rd_T31
   simp [hi]
  have ih := ref_boxesE_loop l hl m (i + 1) K (by omega) (by omega)
  rw [isobathref03_boxes.l0, if_pos (by omega), if_pos (by omega), e, ref_box, Option.bind_some, w64_id (x := (i : Int) + 1) (by omega), show (i : Int) + 1 = ((i + 1 : Nat) : Int) from by omega, ih, List.drop_eq_getElem_cons hi, List.any_cons]
  cases boxB l[i] <;> rfl
theorem ref_boxesE (l : List S31) (K : Nat) (hk : 66 ≤ K) : isobathref03_boxes.f K l = some (boxesE l) := by
 unfold isobathref03_boxes.f boxesE
 by_cases h : l.length > 64
 ·rw [if_pos (by omega), if_pos h]
 ·rw [if_neg (by omega), if_neg h]
  have := ref_boxesE_loop l (by omega) l.length 0 K (by omega) (by omega)
  rw [List.drop_zero] at this
  exact this
end Go.Proofs.Ytmhaiihjfgfaoaa.Gl
end
section
/- Which cells a swarm has visited: what the program and the document's answer compute. -/
namespace Go.Proofs.Ytmhaiihjfgfaoaa.Gl
open Go.RowKit Go.Proofs.YtmhaiihjfgfaoaaW.PrintWords Go.Proofs.YtmhaiihjfgfaoaaW.PrintLast Go.Proofs.YtmhaiihjfgfaoaaW.PrintMore Go.Proofs.Ytmhaiihjfgfaoaa.Pr
set_option linter.unusedVariables false
set_option linter.unusedSectionVars false
/-- A cell, as a box. -/
def cellV (s : Sea) (c : Int) : S31 := ⟨⟨(c % s.nx) * s.cell, (c % s.nx) * s.cell + s.cell⟩, ⟨(c / s.nx) * s.cell, (c / s.nx) * s.cell + s.cell⟩⟩
def visR (l : List S31) (x : S31) (acc : Int) : Int := l.foldl (fun a b => max a (insI b x)) acc
def visRs (rs : List (List S31)) (x : S31) (acc : Int) : Int := rs.foldl (fun a l => visR l x a) acc
def visL (s : Sea) (rs : List (List S31)) (c m : Nat) : List Int := (List.range' c m).map (fun (i : Nat) => visRs rs (cellV s (i : Int)) 0)
def firstE : List (List S31) → Int
 | [] => 0
 | l :: t => if boxesE l = 0 then firstE t else boxesE l
def runsE (rs : List (List S31)) : Int := if rs.length > 8 then 6 else if rs.any (fun x => decide (64 < x.length)) then 6 else firstE rs
/-- What Visited returns. -/
def VisX (s : Sea) (rs : List (List S31)) : List Int × Int := if seaE s = 0 then (if runsE rs = 0 then (visL s rs 0 (s.nx * s.ny).toNat, 0) else ([], runsE rs)) else ([], seaE s)
theorem seaE_n {s : Sea} (h : seaE s = 0) : SeaN s := by
 unfold seaE at h
 cases hb : seaB s with
 | false => rw [hb] at h; cases h
 | true =>
  unfold seaB at hb
  simp only [Bool.and_eq_true, btwB_iff] at hb
  obtain ⟨⟨⟨⟨⟨⟨⟨⟨⟨h1, h2⟩, h3⟩, h4⟩, h5⟩, h6⟩, h7⟩, _⟩, _⟩, _⟩ := hb
  exact ⟨h1, h2, h3, h4, h5, h6, h7⟩
section
variable (s : Sea) (hS : SeaN s) (rs : List (List S31)) (hrs : rs.length ≤ 8) (hlen : ∀ l ∈ rs, l.length ≤ 64)
include hS
theorem cell_num {c : Nat} (hc : c < 144) : 0 ≤ (c : Int) % s.nx ∧ (c : Int) % s.nx ≤ 144 ∧ 0 ≤ (c : Int) / s.nx ∧ (c : Int) / s.nx ≤ 144 ∧ 0 ≤ ((c : Int) % s.nx) * s.cell ∧ ((c : Int) % s.nx) * s.cell ≤ 144 * 65536 ∧ 0 ≤ ((c : Int) / s.nx) * s.cell ∧ ((c : Int) / s.nx) * s.cell ≤ 144 * 65536 ∧ Int.tmod (c : Int) s.nx = (c : Int) % s.nx ∧ Int.tdiv (c : Int) s.nx = (c : Int) / s.nx := by
 have hn := hS.nx
 have hcl := hS.cell
 have d := div_in (x := (c : Int)) (c := s.nx) (by omega) (by omega)
 have r := mod_in (x := (c : Int)) (c := s.nx) (by omega)
 have m1 := mul_in (a := (c : Int) % s.nx) (b := s.cell) (m := 144) (n := 65536) r.1 (by omega) (by omega) hcl.2
 have m2 := mul_in (a := (c : Int) / s.nx) (b := s.cell) (m := 144) (n := 65536) d.1 (by omega) (by omega) hcl.2
 exact ⟨r.1, by omega, d.1, by omega, m1.1, m1.2, m2.1, m2.2, Int.tmod_eq_emod_of_nonneg (by omega), Int.tdiv_eq_ediv_of_nonneg (by omega)⟩
theorem ref_Cell {c : Nat} (hc : c < 144) : isobathref03_Cell.f s.nx s.ny s.cell s.slot s.slots s.layers s.most s.shores s.currents (c : Int) = some ((cellV s c).f0.f0, (cellV s c).f0.f1, (cellV s c).f1.f0, (cellV s c).f1.f1) := by
 obtain ⟨h1, h2, h3, h4, h5, h6, h7, h8, e1, e2⟩ := cell_num s hS hc
 have hn := hS.nx
 have hcl := hS.cell
 unfold isobathref03_Cell.f cellV
 have a1 : ((c : Int) % s.nx + 1) * s.cell = (c : Int) % s.nx * s.cell + s.cell := by rw [Int.add_mul, Int.one_mul]
 have a2 : ((c : Int) / s.nx + 1) * s.cell = (c : Int) / s.nx * s.cell + s.cell := by rw [Int.add_mul, Int.one_mul]
 rw [if_neg (by omega), e1, e2, w64_id (x := (c : Int) % s.nx * s.cell) (by omega), w64_id (x := (c : Int) % s.nx + 1) (by omega), a1, w64_id (x := (c : Int) % s.nx * s.cell + s.cell) (by omega), w64_id (x := (c : Int) / s.nx) (by omega), w64_id (x := (c : Int) / s.nx * s.cell) (by omega), w64_id (x := (c : Int) / s.nx + 1) (by omega), a2, w64_id (x := (c : Int) / s.nx * s.cell + s.cell) (by omega)]
omit hS in
theorem rd_run {j : Nat} (hj : j < rs.length) : rd_L11 rs (j : Int) = rs[j] := by
 unfold rd_L11
 simp [hj]
omit hS in
theorem rd_box {l : List S31} {i : Nat} (hi : i < l.length) : rd_T31 l (i : Int) = l[i] := by
 unfold rd_T31
 simp [hi]
/-- The program's inner loop: the boxes of a run. -/
theorem p3_go (pre suf : List Int) (N : Int) (hp : pre.length < 144) (j : Nat) (run : List S31) (hrun : run.length ≤ 64) (cl : S31) (G : Int → Option (List Int × Int)) (F : Nat)
  (hG : ∀ K acc, F ≤ K → glider_Visited.l2 K rs (pre ++ acc :: suf) (pre.length : Int) N (pre.length : Int) rs (rs.length : Int) (wrap64 ((j : Int) + 1)) s.nx s.ny s.cell s.slot s.slots s.layers s.most s.shores s.currents cl.f0.f0 cl.f0.f1 cl.f1.f0 cl.f1.f1 = G acc) :
  ∀ (m i K : Nat) (acc : Int), i + m = run.length → F + m + 1 ≤ K → glider_Visited.l3 K rs (pre ++ acc :: suf) (pre.length : Int) N (pre.length : Int) rs (rs.length : Int) (j : Int) run (run.length : Int) (i : Int) s.nx s.ny s.cell s.slot s.slots s.layers s.most s.shores s.currents cl.f0.f0 cl.f0.f1 cl.f1.f0 cl.f1.f1 = G (visR (run.drop i) cl acc)
 | 0, i, K + 1, acc, h, hk => by
  rw [glider_Visited.l3, if_neg (by omega), List.drop_eq_nil_of_le (by omega)]
  exact hG K acc (by omega)
 | m + 1, i, K + 1, acc, h, hk => by
  have hi : i < run.length := by omega
  have ih := p3_go pre suf N hp j run hrun cl G F hG m (i + 1) K (max acc (insI run[i] cl)) (by omega) (by omega)
  have hin : glider_inside.f run[i].f0.f0 run[i].f0.f1 run[i].f1.f0 run[i].f1.f1 cl.f0.f0 cl.f0.f1 cl.f1.f0 cl.f1.f1 = some (insI run[i] cl) := rfl
  have hrd : rd (pre ++ acc :: suf) (pre.length : Int) = acc := by unfold rd; simp
  have hst : (pre ++ acc :: suf).set (pre.length : Int).toNat (mx acc (insI run[i] cl)) = pre ++ max acc (insI run[i] cl) :: suf := by rw [mx_max']; simp
  rw [glider_Visited.l3, if_pos (by omega), if_pos (by omega), if_pos (by omega), if_pos (by omega), if_pos (by rw [List.length_append, List.length_cons]; omega), rd_box hi, hin, Option.bind_some, hrd, hst, w64_id (x := (i : Int) + 1) (by omega), List.drop_eq_getElem_cons hi]
  exact ih
include hrs hlen in
theorem p2_go (pre suf : List Int) (N : Int) (hp : pre.length < 144) (cl : S31) (G : Int → Option (List Int × Int)) (F : Nat)
  (hG : ∀ K acc, F ≤ K → glider_Visited.l1 K rs (pre ++ acc :: suf) N (wrap64 ((pre.length : Int) + 1)) s.nx s.ny s.cell s.slot s.slots s.layers s.most s.shores s.currents = G acc) :
  ∀ (m j K : Nat) (acc : Int), j + m = rs.length → F + m * 67 + 1 ≤ K → glider_Visited.l2 K rs (pre ++ acc :: suf) (pre.length : Int) N (pre.length : Int) rs (rs.length : Int) (j : Int) s.nx s.ny s.cell s.slot s.slots s.layers s.most s.shores s.currents cl.f0.f0 cl.f0.f1 cl.f1.f0 cl.f1.f1 = G (visRs (rs.drop j) cl acc)
 | 0, j, K + 1, acc, h, hk => by
  rw [glider_Visited.l2, if_neg (by omega), List.drop_eq_nil_of_le (by omega)]
  exact hG K acc (by omega)
 | m + 1, j, K + 1, acc, h, hk => by
  have hj : j < rs.length := by omega
  have ih := fun K' acc' (hK : F + m * 67 + 1 ≤ K') => p2_go pre suf N hp cl G F hG m (j + 1) K' acc' (by omega) hK
  have hr := hlen _ (List.getElem_mem hj)
  rw [glider_Visited.l2, if_pos (by omega), if_pos (by omega), if_pos (by omega), rd_run rs hj, List.drop_eq_getElem_cons hj]
  have h3 := p3_go s hS rs pre suf N hp j rs[j] hr cl (fun a => G (visRs (rs.drop (j + 1)) cl a)) (F + m * 67 + 1) (fun K' acc' hK => by rw [w64_id (x := (j : Int) + 1) (by omega)]; exact ih K' acc' hK) rs[j].length 0 K acc (by omega) (by omega)
  rw [List.drop_zero] at h3
  exact h3
include hrs hlen in
theorem p1_go : ∀ (m K : Nat) (pre : List Int), pre.length + m ≤ 144 → 540 * m + 1 ≤ K → glider_Visited.l1 K rs (pre ++ List.replicate m 0) ((pre.length + m : Nat) : Int) (pre.length : Int) s.nx s.ny s.cell s.slot s.slots s.layers s.most s.shores s.currents = some (pre ++ visL s rs pre.length m, 0) := by
 intro m
 induction m with
 | zero =>
  intro K pre h hk
  obtain ⟨K, rfl⟩ : ∃ z, K = z + 1 := ⟨K - 1, by omega⟩
  rw [glider_Visited.l1, if_neg (by omega)]
  rfl
 | succ m ihm =>
  intro K pre h hk
  obtain ⟨K, rfl⟩ : ∃ z, K = z + 1 := ⟨K - 1, by omega⟩
  have hf : 540 * m + 1 + rs.length * 67 + 1 ≤ K := by omega
  have hc : pre.length < 144 := by omega
  obtain ⟨h1, h2, h3, h4, h5, h6, h7, h8, e1, e2⟩ := cell_num s hS hc
  have hn := hS.nx
  have hcl := hS.cell
  rw [glider_Visited.l1, if_pos (by omega), if_neg (by omega), e1, e2, w64_id (x := (pre.length : Int) % s.nx * s.cell) (by omega), w64_id (x := (pre.length : Int) % s.nx * s.cell + s.cell) (by omega), w64_id (x := (pre.length : Int) / s.nx) (by omega), w64_id (x := (pre.length : Int) / s.nx * s.cell) (by omega), w64_id (x := (pre.length : Int) / s.nx * s.cell + s.cell) (by omega), List.replicate_succ]
  have hgo := p2_go s hS rs hrs hlen pre (List.replicate m 0) ((pre.length + (m + 1) : Nat) : Int) hc (cellV s pre.length) (fun a => some (pre ++ a :: visL s rs (pre.length + 1) m, 0)) (540 * m + 1) (fun K' acc' hK => by
   have ih := ihm K' (pre ++ [acc']) (by rw [List.length_append, List.length_singleton]; omega) hK
   rw [List.length_append, List.length_singleton, List.append_assoc, List.append_assoc, List.singleton_append, List.singleton_append] at ih
   rw [w64_id (x := (pre.length : Int) + 1) (by omega), show (pre.length : Int) + 1 = ((pre.length + 1 : Nat) : Int) from by omega, show pre.length + (m + 1) = pre.length + 1 + m from by omega]
   exact ih) rs.length 0 K 0 (by omega) hf
  rw [List.drop_zero] at hgo
  exact hgo
theorem r4_go (out : List Int) {c : Nat} (hc : c < 144) (j : Nat) (hj : j < rs.length) (hr : rs[j].length ≤ 64) (hjj : j ≤ 8) (G : Int → Option (List Int × Int)) (F : Nat)
  (hG : ∀ K acc, F ≤ K → isobathref03_Visited.l3 K rs out (c : Int) acc (wrap64 ((j : Int) + 1)) s.nx s.ny s.cell s.slot s.slots s.layers s.most s.shores s.currents = G acc) :
  ∀ (m i K : Nat) (acc : Int), i + m = rs[j].length → F + m + 3 ≤ K → isobathref03_Visited.l4 K rs out (c : Int) acc (j : Int) (i : Int) s.nx s.ny s.cell s.slot s.slots s.layers s.most s.shores s.currents = G (visR (rs[j].drop i) (cellV s c) acc)
 | 0, i, K + 1, acc, h, hk => by
  rw [isobathref03_Visited.l4, if_pos (by omega), if_pos (by omega), rd_run rs hj, if_neg (by omega), List.drop_eq_nil_of_le (by omega)]
  exact hG K acc (by omega)
 | m + 1, i, K + 1, acc, h, hk => by
  have hi : i < rs[j].length := by omega
  have ih := r4_go out hc j hj hr hjj G F hG m (i + 1) K (max acc (insI rs[j][i] (cellV s c))) (by omega) (by omega)
  rw [isobathref03_Visited.l4, if_pos (by omega), if_pos (by omega), rd_run rs hj, if_pos (by omega), if_pos (by omega), ref_Cell s hS hc, Option.bind_some, rd_box hi]
  dsimp only
  rw [ref_Inside _ _ K (by omega), Option.bind_some, mx_max', w64_id (x := (i : Int) + 1) (by omega), List.drop_eq_getElem_cons hi]
  exact ih
include hrs hlen in
theorem r3_go (out : List Int) (ho : out.length < 144) {c : Nat} (hc : c < 144) (G : Int → Option (List Int × Int)) (F : Nat)
  (hG : ∀ K acc, F ≤ K → isobathref03_Visited.l2 K rs (out ++ [acc]) (wrap64 ((c : Int) + 1)) s.nx s.ny s.cell s.slot s.slots s.layers s.most s.shores s.currents = G acc) :
  ∀ (m j K : Nat) (acc : Int), j + m = rs.length → F + m * 70 + 1 ≤ K → isobathref03_Visited.l3 K rs out (c : Int) acc (j : Int) s.nx s.ny s.cell s.slot s.slots s.layers s.most s.shores s.currents = G (visRs (rs.drop j) (cellV s c) acc)
 | 0, j, K + 1, acc, h, hk => by
  rw [isobathref03_Visited.l3, if_neg (by omega), if_pos (by omega), List.drop_eq_nil_of_le (by omega)]
  exact hG K acc (by omega)
 | m + 1, j, K + 1, acc, h, hk => by
  have hj : j < rs.length := by omega
  have ih := fun K' acc' (hK : F + m * 70 + 1 ≤ K') => r3_go out ho hc G F hG m (j + 1) K' acc' (by omega) hK
  have hr := hlen _ (List.getElem_mem hj)
  rw [isobathref03_Visited.l3, if_pos (by omega), List.drop_eq_getElem_cons hj]
  have h3 := r4_go s hS rs out hc j hj hr (by omega) (fun a => G (visRs (rs.drop (j + 1)) (cellV s c) a)) (F + m * 70 + 1) (fun K' acc' hK => by rw [w64_id (x := (j : Int) + 1) (by omega)]; exact ih K' acc' hK) rs[j].length 0 K acc (by omega) (by omega)
  rw [List.drop_zero] at h3
  exact h3
include hrs hlen in
theorem r2_go (N : Nat) (hN : wrap64 (s.nx * s.ny) = (N : Int)) (h144 : N ≤ 144) : ∀ (m K : Nat) (out : List Int), out.length + m = N → 570 * m + 1 ≤ K → isobathref03_Visited.l2 K rs out (out.length : Int) s.nx s.ny s.cell s.slot s.slots s.layers s.most s.shores s.currents = some (out ++ visL s rs out.length m, 0) := by
 intro m
 induction m with
 | zero =>
  intro K out h hk
  obtain ⟨K, rfl⟩ : ∃ z, K = z + 1 := ⟨K - 1, by omega⟩
  rw [isobathref03_Visited.l2, hN, if_neg (by omega)]
  simp [visL]
 | succ m ihm =>
  intro K out h hk
  obtain ⟨K, rfl⟩ : ∃ z, K = z + 1 := ⟨K - 1, by omega⟩
  have hf : 570 * m + 1 + rs.length * 70 + 1 ≤ K := by omega
  have hc : out.length < 144 := by omega
  rw [isobathref03_Visited.l2, hN, if_pos (by omega)]
  have hgo := r3_go s hS rs hrs hlen out hc (c := out.length) hc (fun a => some (out ++ a :: visL s rs (out.length + 1) m, 0)) (570 * m + 1) (fun K' acc' hK => by
   have ih := ihm K' (out ++ [acc']) (by rw [List.length_append, List.length_singleton]; omega) hK
   rw [List.length_append, List.length_singleton, List.append_assoc, List.singleton_append] at ih
   rw [w64_id (x := (out.length : Int) + 1) (by omega), show (out.length : Int) + 1 = ((out.length + 1 : Nat) : Int) from by omega]
   exact ih) rs.length 0 K 0 (by omega) hf
  rw [List.drop_zero] at hgo
  exact hgo
end
theorem p0_go (s : Sea) (hS : SeaN s) (rs : List (List S31)) (hrs : rs.length ≤ 8) (hlen : ∀ l ∈ rs, l.length ≤ 64) : ∀ (m j K : Nat), j + m = rs.length → m + 90000 ≤ K → glider_Visited.l0 K rs rs (rs.length : Int) (j : Int) s.nx s.ny s.cell s.slot s.slots s.layers s.most s.shores s.currents = some (if firstE (rs.drop j) = 0 then (visL s rs 0 (s.nx * s.ny).toNat, 0) else ([], firstE (rs.drop j)))
 | 0, j, K + 1, h, hk => by
  have hx := mul_in (a := s.nx) (b := s.ny) (m := 12) (n := 12) zq12 hS.nx.2 zq13 hS.ny.2
  have hgo := p1_go s hS rs hrs hlen (s.nx * s.ny).toNat K [] (by simp only [List.length_nil]; omega) (by omega)
  rw [glider_Visited.l0, if_neg (by omega), w64_id (x := s.nx * s.ny) (by omega), if_pos (by omega), if_pos (by omega), Option.bind_some, List.drop_eq_nil_of_le (by omega), List.length_replicate]
  rw [List.nil_append, List.nil_append, List.length_nil, Nat.zero_add] at hgo
  exact hgo
 | m + 1, j, K + 1, h, hk => by
  have hj : j < rs.length := by omega
  have ih := p0_go s hS rs hrs hlen m (j + 1) K (by omega) (by omega)
  have hb : glider_checkBoxes.f rs[j] = some (boxesE rs[j]) := rfl
  rw [glider_Visited.l0, if_pos (by omega), if_pos (by omega), if_pos (by omega), rd_run rs hj, hb, Option.bind_some, w64_id (x := (j : Int) + 1) (by omega), show (j : Int) + 1 = ((j + 1 : Nat) : Int) from by omega, ih, List.drop_eq_getElem_cons hj, firstE]
  by_cases hz : boxesE rs[j] = 0
  ·rw [if_pos hz, if_pos hz]
  ·rw [if_neg hz, if_neg hz, if_neg hz]
theorem vis_some (s : Sea) (rs : List (List S31)) (K : Nat) (hk : 90100 ≤ K) : glider_Visited.f K s.nx s.ny s.cell s.slot s.slots s.layers s.most s.shores s.currents rs = some (VisX s rs) := by
 obtain ⟨K, rfl⟩ : ∃ z, K = z + 1 := ⟨K - 1, by omega⟩
 unfold glider_Visited.f VisX
 have hs : glider_CheckSea.f s.nx s.ny s.cell s.slot s.slots s.layers s.most s.shores s.currents = some (seaE s) := rfl
 rw [hs, Option.bind_some]
 by_cases h0 : seaE s = 0
 ·have hS := seaE_n h0
  rw [if_pos h0, if_pos h0]
  unfold runsE
  by_cases h8 : rs.length > 8
  ·rw [if_pos (show (rs.length : Int) > 8 by omega), if_pos h8, if_neg (by decide), glider_Visited.j0, if_pos rfl]
  ·rw [if_neg (show ¬((rs.length : Int) > 8) by omega), if_neg h8]
   unfold api_Box_86.f
   rw [Option.bind_some, glider_Visited.j0]
   cases hb : rs.any (fun x => decide (64 < x.length)) with
   | true => rfl
   | false =>
    have hlen : ∀ l ∈ rs, l.length ≤ 64 := by
     intro l hl
     have := List.any_eq_false.1 hb l hl
     simp only [decide_eq_true_eq] at this
     omega
    refine (if_neg (show ¬(false = true) by decide)).trans ?_
    have := p0_go s hS rs (by omega) hlen rs.length 0 K (by omega) (by omega)
    rw [List.drop_zero] at this
    exact this
 ·rw [if_neg h0, if_neg h0]
theorem q1_go (s : Sea) (hS : SeaN s) (rs : List (List S31)) (hrs : rs.length ≤ 8) (hlen : ∀ l ∈ rs, l.length ≤ 64) : ∀ (m j K : Nat), j + m = rs.length → m + 90000 ≤ K → isobathref03_Visited.l1 K rs (j : Int) s.nx s.ny s.cell s.slot s.slots s.layers s.most s.shores s.currents = some (if firstE (rs.drop j) = 0 then (visL s rs 0 (s.nx * s.ny).toNat, 0) else ([], firstE (rs.drop j)))
 | 0, j, K + 1, h, hk => by
  have hx := mul_in (a := s.nx) (b := s.ny) (m := 12) (n := 12) zq12 hS.nx.2 zq13 hS.ny.2
  have hgo := r2_go s hS rs hrs hlen (s.nx * s.ny).toNat (by rw [w64_id (x := s.nx * s.ny) (by omega)]; omega) (by omega) (s.nx * s.ny).toNat K [] (by simp only [List.length_nil]; omega) (by omega)
  rw [isobathref03_Visited.l1, if_neg (by omega), List.drop_eq_nil_of_le (by omega)]
  rw [List.nil_append, List.length_nil] at hgo
  exact hgo
 | m + 1, j, K + 1, h, hk => by
  have hj : j < rs.length := by omega
  have ih := q1_go s hS rs hrs hlen m (j + 1) K (by omega) (by omega)
  rw [isobathref03_Visited.l1, if_pos (by omega), if_pos (by omega), rd_run rs hj, ref_boxesE _ K (by omega), Option.bind_some, Option.bind_some, w64_id (x := (j : Int) + 1) (by omega), show (j : Int) + 1 = ((j + 1 : Nat) : Int) from by omega, ih, List.drop_eq_getElem_cons hj, firstE]
  by_cases hz : boxesE rs[j] = 0
  ·rw [if_pos hz, if_pos hz]
  ·rw [if_neg hz, if_neg hz, if_neg hz]
theorem q0_go (s : Sea) (hS : SeaN s) (rs : List (List S31)) (hrs : rs.length ≤ 8) : ∀ (m j K : Nat), j + m = rs.length → m + 90020 ≤ K → (∀ l ∈ rs.take j, l.length ≤ 64) → isobathref03_Visited.l0 K rs (j : Int) s.nx s.ny s.cell s.slot s.slots s.layers s.most s.shores s.currents = some (if (rs.drop j).any (fun x => decide (64 < x.length)) = true then ([], 6) else if firstE rs = 0 then (visL s rs 0 (s.nx * s.ny).toNat, 0) else ([], firstE rs))
 | 0, j, K + 1, h, hk, hl => by
  rw [List.take_of_length_le (by omega)] at hl
  have := q1_go s hS rs hrs hl rs.length 0 K (by omega) (by omega)
  rw [List.drop_zero] at this
  rw [isobathref03_Visited.l0, if_neg (by omega), List.drop_eq_nil_of_le (by omega), List.any_nil, if_neg (by decide)]
  exact this
 | m + 1, j, K + 1, h, hk, hl => by
  have hj : j < rs.length := by omega
  rw [isobathref03_Visited.l0, if_pos (by omega), if_pos (by omega), rd_run rs hj, List.drop_eq_getElem_cons hj, List.any_cons]
  by_cases h64 : (rs[j].length : Int) > 64
  ·rw [if_pos h64, decide_eq_true (show 64 < rs[j].length by omega), Bool.true_or, if_pos rfl]
  ·rw [if_neg h64, decide_eq_false (show ¬(64 < rs[j].length) by omega), Bool.false_or, w64_id (x := (j : Int) + 1) (by omega), show (j : Int) + 1 = ((j + 1 : Nat) : Int) from by omega]
   exact q0_go s hS rs hrs m (j + 1) K (by omega) (by omega) (by
    intro l hm
    rw [List.take_add_one, List.mem_append] at hm
    rcases hm with hm | hm
    ·exact hl l hm
    ·simp [hj] at hm
     rw [hm]
     omega)
theorem ref_vis (s : Sea) (rs : List (List S31)) (hl : s.currents.length ≤ 100000) (K : Nat) (hk : 100100 ≤ K) : isobathref03_Visited.f K s.nx s.ny s.cell s.slot s.slots s.layers s.most s.shores s.currents rs = some (VisX s rs) := by
 unfold isobathref03_Visited.f VisX
 rw [ref_sea s K hl (by omega), Option.bind_some, Option.bind_some]
 by_cases h0 : seaE s = 0
 ·have hS := seaE_n h0
  rw [if_pos h0, if_pos h0]
  unfold runsE
  by_cases h8 : rs.length > 8
  ·rw [if_pos (show (rs.length : Int) > 8 by omega), if_pos h8, if_neg (by decide)]
  ·rw [if_neg (show ¬((rs.length : Int) > 8) by omega), if_neg h8]
   have := q0_go s hS rs (by omega) rs.length 0 K (by omega) (by omega) (by simp)
   rw [List.drop_zero] at this
   refine this.trans ?_
   cases rs.any (fun x => decide (64 < x.length)) <;> rfl
 ·rw [if_neg h0, if_neg h0]
theorem vis_len (s : Sea) (rs : List (List S31)) : (VisX s rs).1.length ≤ 144 := by
 unfold VisX
 split
 ·rename_i h0
  have hS := seaE_n h0
  have hx := mul_in (a := s.nx) (b := s.ny) (m := 12) (n := 12) zq12 hS.nx.2 zq13 hS.ny.2
  split
  ·unfold visL
   rw [List.length_map, List.length_range']
   omega
  ·exact Nat.zero_le _
 ·exact Nat.zero_le _
end Go.Proofs.Ytmhaiihjfgfaoaa.Gl
end
section
/- Which cells a swarm has visited: the program's answer is the definition's. -/
namespace Go.Proofs.Ytmhaiihjfgfaoaa.Pure
open Go.RowKit Go.Proofs.YtmhaiihjfgfaoaaW.PrintWords Go.Proofs.YtmhaiihjfgfaoaaW.PrintLast Go.Proofs.Ytmhaiihjfgfaoaa.Pr Go.Proofs.Ytmhaiihjfgfaoaa.Good Go.Proofs.Ytmhaiihjfgfaoaa.Gl
namespace Vis
theorem works {k : Nat} (h : 60 ≤ k) : isobathlaw03_Works.f k = some true := at_rounds isobathlaw03_Works.mono h isobathlaw03_Works.true_
theorem cmp (R : List Int) (hR : R.length ≤ 144) : ∀ (m i K : Nat), i + m = R.length → m + 61 ≤ K → isobathlaw03_GliderVisits.l1 K R R (i : Int) = some true
 | 0, i, K + 1, h, hk => by
  rw [isobathlaw03_GliderVisits.l1, if_neg (by omega), works (by omega)]; rfl
 | m + 1, i, K + 1, h, hk => by
  rw [isobathlaw03_GliderVisits.l1, if_pos (by omega), if_pos (by omega), if_pos (by omega), if_pos rfl, w64_id (x := (i : Int) + 1) (by omega)]
  exact cmp R hR m (i + 1) K (by omega) (by omega)
theorem rest (s : Sea) (hl : s.currents.length ≤ 100000) (rs : List (List S31)) (hr : rs.length ≤ 10) : ∀ (m i K : Nat), i + m = rs.length → m + 100400 ≤ K → isobathlaw03_GliderVisits.l0 K rs (i : Int) s.nx s.ny s.cell s.slot s.slots s.layers s.most s.shores s.currents = some true
 | 0, i, K + 1, h, hk => by
  obtain ⟨K, rfl⟩ : ∃ z, K = z + 1 := ⟨K - 1, by omega⟩
  have hlen := vis_len s rs
  have hb : (((VisX s rs).1.length : Int) != ((VisX s rs).1.length : Int)) = false := by simp
  rw [isobathlaw03_GliderVisits.l0, if_neg (by omega), vis_some s rs (K + 1) (by omega), Option.bind_some, ref_vis s rs hl (K + 1) (by omega), Option.bind_some, if_pos rfl, isobathlaw03_GliderVisits.j2, hb, if_neg (by decide)]
  exact cmp (VisX s rs).1 hlen _ 0 K (Nat.zero_add _) (by omega)
 | m + 1, i, K + 1, h, hk => by
  rw [isobathlaw03_GliderVisits.l0, if_pos (by omega), if_pos (by omega)]
  split
  ·rw [works (by omega)]; rfl
  ·rw [w64_id (x := (i : Int) + 1) (by omega)]
   exact rest s hl rs hr m (i + 1) K (by omega) (by omega)
end Vis
open Vis in
theorem GliderVisits : ∀ (x0 : S25) (x1 : (List (List S31))), W25 x0 → ((∀ y ∈ x1, ((∀ z ∈ y, W31 z) ∧ y.length * Try.prog.bytesOf 31 ≤ reachBytes)) ∧ x1.length * Try.prog.bytesOf 50 ≤ reachBytes) → ∃ k, isobathlaw03_GliderVisits.f k (x0.f0) (x0.f1) (x0.f2) (x0.f3) (x0.f4) (x0.f5) (x0.f6) (x0.f7) (x0.f8) x1 = some true := by
 intro x0 x1 g0 g1
 let s : Sea := ⟨x0.f0, x0.f1, x0.f2, x0.f3, x0.f4, x0.f5, x0.f6, x0.f7, x0.f8⟩
 have main : ∀ K : Nat, 100500 ≤ K → isobathlaw03_GliderVisits.f (K + 1) s.nx s.ny s.cell s.slot s.slots s.layers s.most s.shores s.currents x1 = some true := by
  intro K hK
  have ht : isobathlaw03_GliderVisits.j0 (K + 1) x1 true s.nx s.ny s.cell s.slot s.slots s.layers s.most s.shores s.currents = some true := by
   rw [isobathlaw03_GliderVisits.j0, if_pos rfl, works (by omega)]; rfl
  unfold isobathlaw03_GliderVisits.f
  rw [ref_great, Option.bind_some]
  by_cases h1 : (s.shores.length : Int) > 200
  ·rw [decide_eq_true h1, Bool.true_or, if_pos rfl, ht]
  by_cases h2 : (s.currents.length : Int) > 3000
  ·rw [decide_eq_true h2, Bool.or_true, if_pos rfl, ht]
  rw [decide_eq_false h1, decide_eq_false h2, Bool.or_false, if_neg (by decide)]
  by_cases h3 : (x1.length : Int) > 10
  ·rw [decide_eq_true h3, ht]
  rw [decide_eq_false h3, isobathlaw03_GliderVisits.j0, if_neg (by decide)]
  exact rest s (by omega) x1 (by omega) x1.length 0 K (Nat.zero_add _) (by omega)
 exact ⟨100500 + 1, main 100500 (Nat.le_refl _)⟩
end Go.Proofs.Ytmhaiihjfgfaoaa.Pure
end
