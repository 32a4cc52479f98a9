/- Part 15 of the proof of TopInside: what the functions compute. No condition. -/
import Derived.Test.YthglkoddmpicdaaTiTopInside3
import Derived.Test.YthglkoddmpicdaaTiTopInside13
import Derived.Test.YthglkoddmpicdaaTiTopInside14
set_option linter.unusedVariables false
set_option linter.unusedSimpArgs false
section
/- Whether a run is fetched, and which cells are visited, is any of the answers of layer 1: the pure statement about what the program computes. -/
namespace Go.Proofs.Ythglkoddmpicdaa.Pure
open Go.RowKit Go.Proofs.YthglkoddmpicdaaW.PrintWords Go.Proofs.YthglkoddmpicdaaW.PrintLast Go.Proofs.Ythglkoddmpicdaa.Pr Go.Proofs.Ythglkoddmpicdaa.Good Go.Proofs.Ythglkoddmpicdaa.Gl
set_option linter.unusedVariables false
set_option linter.unusedSectionVars false
namespace Inside
theorem works {k : Nat} (h : 12 ≤ k) : isobathtop_works03.f k = some true := at_rounds isobathtop_works03.mono h (by first | kernel_rfl)
theorem insI_two (x y : S29) : 0 ≤ insI x y ∧ insI x y ≤ 2 := by
 have h1 := inI_two x.f0 y.f0
 have h2 := inI_two x.f1 y.f1
 unfold insI
 omega
theorem box_ok {x : S29} (h : boxB x = true) : okS x.f0.f0 x.f0.f1 = true ∧ okS x.f1.f0 x.f1.f1 = true := by
 unfold boxB at h
 simp only [Bool.and_eq_true] at h
 exact h.1
theorem within_ok {x y : S29} (hx : okS x.f0.f0 x.f0.f1 = true ∧ okS x.f1.f0 x.f1.f1 = true) (hy : okS y.f0.f0 y.f0.f1 = true ∧ okS y.f1.f0 y.f1.f1 = true) (K : Nat) (hk : 3 ≤ K) :
  isobathtop_within.f K x.f0.f0 x.f0.f1 x.f1.f0 x.f1.f1 y.f0.f0 y.f0.f1 y.f1.f0 y.f1.f1 = some (insI x y, true) := by
 have e1 : bound_In.f K x.f0.f0 x.f0.f1 y.f0.f0 y.f0.f1 = some (inI x.f0 y.f0, inE x.f0 y.f0) := at_rounds (bound_In.mono _ _ _ _) hk (in_some x.f0 y.f0)
 have e2 : bound_In.f K x.f1.f0 x.f1.f1 y.f1.f0 y.f1.f1 = some (inI x.f1 y.f1, inE x.f1 y.f1) := at_rounds (bound_In.mono _ _ _ _) hk (in_some x.f1 y.f1)
 have q1 : inE x.f0 y.f0 = 0 := by unfold inE; rw [hx.1, hy.1]; rfl
 have q2 : inE x.f1 y.f1 = 0 := by unfold inE; rw [hx.2, hy.2]; rfl
 have t1 := inI_two x.f0 y.f0
 have t2 := inI_two x.f1 y.f1
 unfold isobathtop_within.f bound_All.f
 rw [e1, e2, Option.bind_some, Option.bind_some, Option.bind_some]
 dsimp only
 rw [if_pos q1, if_pos q2]
 have b1 : Tp.badA (inI x.f0 y.f0) = false := by unfold Tp.badA; rw [decide_eq_true t1.1, decide_eq_true t1.2]; rfl
 have b2 : Tp.badA (inI x.f1 y.f1) = false := by unfold Tp.badA; rw [decide_eq_true t2.1, decide_eq_true t2.2]; rfl
 have hf : Tp.foldV mn [inI x.f0 y.f0, inI x.f1 y.f1] 2 = (insI x y, 0) := by
  unfold Tp.foldV
  rw [if_neg (by simp), List.any_cons, List.any_cons, List.any_nil, b1, b2, if_neg (by decide)]
  refine Prod.ext ?_ rfl
  show mn (mn 2 (inI x.f0 y.f0)) (inI x.f1 y.f1) = _
  unfold insI
  simp only [mn_min']
  omega
 rw [hf]
 rfl
theorem any_ok (l : List Int) (hl : l.length ≤ 256) (hb : ∀ x ∈ l, 0 ≤ x ∧ x ≤ 2) : bound_Any.f l = some (l.foldl max 0, 0) := by
 unfold bound_Any.f Tp.foldV
 have h1 : l.any Tp.badA = false := by
  rw [List.any_eq_false]
  intro x hx
  have := hb x hx
  unfold Tp.badA
  rw [decide_eq_true this.1, decide_eq_true this.2]
  decide
 have h2 : (mx : Int → Int → Int) = max := by funext a b; exact mx_max' a b
 rw [if_neg (by omega), h1, if_neg (by decide), h2]
/-- The answers of the dives that end in time. -/
def colI (d : Int) (p : S44) : List S29 → Int → List Int
 | [], _ => []
 | x :: l, t => (if p.f1 ≤ t + d ∧ t + d ≤ p.f2 then [insI x p.f0] else []) ++ colI d p l (t + d)
theorem fet_col (d : Int) (p : S44) : ∀ (l : List S29) (t acc : Int), fetI d p l t acc = (colI d p l t).foldl max acc
 | [], t, acc => rfl
 | x :: l, t, acc => by
  unfold fetI colI
  rw [List.foldl_append, fet_col d p l]
  by_cases h : p.f1 ≤ t + d ∧ t + d ≤ p.f2
  ·rw [if_pos h, if_pos h]; rfl
  ·rw [if_neg h, if_neg h]; rfl
/-- What Fetched returns. -/
def FetX (v : Veh) (t : Int) (l : List S29) (p : S44) : Int × Int := if vehE v = 0 then (if btwB t 0 1073741824 = true then (if boxesE l = 0 then (if pickB p = true then (fetI v.dive p l t 0, 0) else (0, 2)) else (0, boxesE l)) else (0, 3)) else (0, vehE v)
theorem fetched_ok (v : Veh) (t : Int) (l : List S29) (p : S44) (K : Nat) (hk : 100 ≤ K) : glider_Fetched.f K v.speed v.dive v.use.f0 v.use.f1 v.drift.f0 v.drift.f1 v.reserve t l p.f0.f0.f0 p.f0.f0.f1 p.f0.f1.f0 p.f0.f1.f1 p.f1 p.f2 = some (FetX v t l p) := by
 have ev := at_rounds (glider_CheckVehicle.mono _ _ _ _ _ _ _) (show 4 ≤ K by omega) (veh_some v)
 unfold glider_Fetched.f FetX
 rw [ev, Option.bind_some]
 by_cases h1 : vehE v = 0
 ·rw [if_pos h1, if_pos h1, btw_some, Option.bind_some]
  by_cases h2 : btwB t 0 1073741824 = true
  ·have hb : glider_checkBoxes.f l = some (boxesE l) := rfl
   rw [if_pos h2, if_pos h2, hb, Option.bind_some]
   by_cases h3 : boxesE l = 0
   ·have ep := at_rounds (glider_validPickup.mono _ _ _ _ _ _) (show 4 ≤ K by omega) (pick_some p)
    rw [if_pos h3, if_pos h3, ep, Option.bind_some]
    by_cases h4 : pickB p = true
    ·have hv : vehB v = true := by
      unfold vehE at h1
      cases hb : vehB v with
      | true => rfl
      | false => rw [hb] at h1; cases h1
     have hl := boxes_len h3
     rw [if_pos h4, if_pos h4, fet_some v hv p l hl t (btwB_iff.1 h2) K (by omega)]
     rfl
    ·rw [if_neg h4, if_neg h4]
   ·rw [if_neg h3, if_neg h3]
  ·rw [if_neg h2, if_neg h2]
 ·rw [if_neg h1, if_neg h1]
theorem boxes_all {l : List S29} (h : boxesE l = 0) : ∀ x ∈ l, boxB x = true := by
 unfold boxesE at h
 by_cases q : l.length > 64
 ·rw [if_pos q] at h; cases h
 ·rw [if_neg q] at h
  by_cases q2 : l.any (fun x => !boxB x) = true
  ·rw [if_pos q2] at h; cases h
  ·intro x hx
   have := List.any_eq_false.1 (Bool.not_eq_true _ ▸ q2) x hx
   simpa using this
section
variable (s : Sea) (v : Veh) (t : Int) (p : S44) (rs : List (List S29)) (hrs : rs.length ≤ 3) (hlen : ∀ l ∈ rs, l.length ≤ 20)
/-- The answers for a run, one after another. -/
theorem run_go (hv : vehB v = true) (ht : 0 ≤ t ∧ t ≤ 1073741824) (hp : pickB p = true) (j : Nat) (hj : j < rs.length) (hj1 : j < 1000) (hb : boxesE rs[j] = 0) (h20 : rs[j].length ≤ 20) (X : Int) (F : Nat)
  (hG : ∀ K, F ≤ K → isobathtop_TopInside.l1 K t rs ((j + 1 : Nat) : Int) s.nx s.ny s.cell s.slot s.slots s.layers s.most s.shores s.currents v.speed v.dive v.use.f0 v.use.f1 v.drift.f0 v.drift.f1 v.reserve p.f0.f0.f0 p.f0.f0.f1 p.f0.f1.f0 p.f0.f1.f1 p.f1 p.f2 = some true) : ∀ (m i K : Nat) (l : List Int), i + m = rs[j].length → F + 2 * m + 10 ≤ K → l.length ≤ i → (∀ x ∈ l, 0 ≤ x ∧ x ≤ 2) →
  (l ++ colI v.dive p (rs[j].drop i) (t + (i : Int) * v.dive)).foldl max 0 = X →
  isobathtop_TopInside.l2 K t rs (j : Int) X l (i : Int) s.nx s.ny s.cell s.slot s.slots s.layers s.most s.shores s.currents v.speed v.dive v.use.f0 v.use.f1 v.drift.f0 v.drift.f1 v.reserve p.f0.f0.f0 p.f0.f0.f1 p.f0.f1.f0 p.f0.f1.f1 p.f1 p.f2 = some true
 | 0, i, K, l, h, hk, hl, h2, hX => by
  obtain ⟨K, rfl⟩ : ∃ z, K = z + 1 := ⟨K - 1, by omega⟩
  rw [List.drop_eq_nil_of_le (by omega), colI, List.append_nil] at hX
  rw [isobathtop_TopInside.l2, if_pos (by omega), if_pos (by omega), rd_run rs hj, if_neg (by omega), any_ok l (by omega) h2, Option.bind_some]
  dsimp only
  rw [if_pos rfl, if_pos hX, w64_id (x := (j : Int) + 1) (by omega), show (j : Int) + 1 = ((j + 1 : Nat) : Int) from by omega]
  exact hG K (by omega)
 | m + 1, i, K, l, h, hk, hl, h2, hX => by
  obtain ⟨K, rfl⟩ : ∃ z, K = z + 2 := ⟨K - 2, by omega⟩
  have hi : i < rs[j].length := by omega
  have hd : 1 ≤ v.dive ∧ v.dive ≤ 131072 := by
   unfold vehB at hv
   simp only [Bool.and_eq_true, btwB_iff] at hv
   omega
  have m1 := mul_in (a := (i : Int) + 1) (b := v.dive) (m := 20) (n := 131072) (by omega) (by omega) (by omega) hd.2
  have e0 : ((i : Int) + 1) * v.dive = (i : Int) * v.dive + v.dive := by rw [Int.add_mul, Int.one_mul]
  have e1 : t + ((i + 1 : Nat) : Int) * v.dive = t + (i : Int) * v.dive + v.dive := by rw [show ((i + 1 : Nat) : Int) = (i : Int) + 1 from by omega, e0]; omega
  have hpb : okS p.f0.f0.f0 p.f0.f0.f1 = true ∧ okS p.f0.f1.f0 p.f0.f1.f1 = true := by
   unfold pickB at hp
   simp only [Bool.and_eq_true] at hp
   exact box_ok hp.1.1.1
  have ih := run_go hv ht hp j hj hj1 hb h20 X F hG m (i + 1) K
  rw [e1] at ih
  rw [List.drop_eq_getElem_cons hi, colI, ← List.append_assoc] at hX
  have hin := within_ok (box_ok (boxes_all hb _ (List.getElem_mem hi))) hpb K (by omega)
  rw [isobathtop_TopInside.l2, if_pos (by omega), if_pos (by omega), rd_run rs hj, if_pos (by omega), w64_id (x := (i : Int) + 1) (by omega), w64_id (x := ((i : Int) + 1) * v.dive) (by omega), w64_id (x := t + ((i : Int) + 1) * v.dive) (by omega), e0, ← Int.add_assoc]
  have hj4 : ∀ b, isobathtop_TopInside.j4 (K + 1) t rs (j : Int) X l (i : Int) b s.nx s.ny s.cell s.slot s.slots s.layers s.most s.shores s.currents v.speed v.dive v.use.f0 v.use.f1 v.drift.f0 v.drift.f1 v.reserve p.f0.f0.f0 p.f0.f0.f1 p.f0.f1.f0 p.f0.f1.f1 p.f1 p.f2
    = isobathtop_TopInside.l2 K t rs (j : Int) X (l ++ if b = true then [] else [insI rs[j][i] p.f0]) ((i + 1 : Nat) : Int) s.nx s.ny s.cell s.slot s.slots s.layers s.most s.shores s.currents v.speed v.dive v.use.f0 v.use.f1 v.drift.f0 v.drift.f1 v.reserve p.f0.f0.f0 p.f0.f0.f1 p.f0.f1.f0 p.f0.f1.f1 p.f1 p.f2 := by
   intro b
   rw [isobathtop_TopInside.j4, w64_id (x := (i : Int) + 1) (by omega), show (i : Int) + 1 = ((i + 1 : Nat) : Int) from by omega]
   cases b with
   | true => rw [if_pos rfl, if_pos rfl, List.append_nil]
   | false => rw [if_neg (show ¬(false = true) by decide), if_neg (show ¬(false = true) by decide), if_pos (by omega), if_pos (by omega), rd_run rs hj, if_pos (by omega), if_pos (by omega), rd_box hi, hin, Option.bind_some, if_pos rfl, if_pos (by omega)]
  have hgo : ∀ b, (b = true ↔ ¬(p.f1 ≤ t + (i : Int) * v.dive + v.dive ∧ t + (i : Int) * v.dive + v.dive ≤ p.f2)) → isobathtop_TopInside.j4 (K + 1) t rs (j : Int) X l (i : Int) b s.nx s.ny s.cell s.slot s.slots s.layers s.most s.shores s.currents v.speed v.dive v.use.f0 v.use.f1 v.drift.f0 v.drift.f1 v.reserve p.f0.f0.f0 p.f0.f0.f1 p.f0.f1.f0 p.f0.f1.f1 p.f1 p.f2 = some true := by
   intro b hbb
   rw [hj4]
   by_cases hc : p.f1 ≤ t + (i : Int) * v.dive + v.dive ∧ t + (i : Int) * v.dive + v.dive ≤ p.f2
   ·rw [if_pos hc] at hX
    rw [if_neg (fun q => hbb.1 q hc)]
    exact ih _ (by omega) (by omega) (by rw [List.length_append]; simp; omega) (fun x hx => by
     rcases List.mem_append.1 hx with hx | hx
     ·exact h2 x hx
     ·rw [List.mem_singleton.1 hx]; exact insI_two _ _) hX
   ·rw [if_neg hc, List.append_nil] at hX
    rw [if_pos (hbb.2 hc), List.append_nil]
    exact ih _ (by omega) (by omega) (by omega) h2 hX
  by_cases hc1 : t + (i : Int) * v.dive + v.dive < p.f1
  ·rw [if_pos hc1]
   exact hgo true ⟨fun _ q => by omega, fun _ => rfl⟩
  ·rw [if_neg hc1]
   refine hgo _ ⟨fun q => ?_, fun q => ?_⟩
   ·have := of_decide_eq_true q
    omega
   ·exact decide_eq_true (by omega)
/-- All runs, one after another. -/
theorem runs_go (hlen : ∀ l ∈ rs, l.length ≤ 20) (hrs : rs.length ≤ 3) (F : Nat) (hG : ∀ K, F ≤ K → isobathtop_TopInside.l1 K t rs (rs.length : Int) s.nx s.ny s.cell s.slot s.slots s.layers s.most s.shores s.currents v.speed v.dive v.use.f0 v.use.f1 v.drift.f0 v.drift.f1 v.reserve p.f0.f0.f0 p.f0.f0.f1 p.f0.f1.f0 p.f0.f1.f1 p.f1 p.f2 = some true) : ∀ (m j K : Nat), j + m = rs.length → F + 120 * m ≤ K →
  isobathtop_TopInside.l1 K t rs (j : Int) s.nx s.ny s.cell s.slot s.slots s.layers s.most s.shores s.currents v.speed v.dive v.use.f0 v.use.f1 v.drift.f0 v.drift.f1 v.reserve p.f0.f0.f0 p.f0.f0.f1 p.f0.f1.f0 p.f0.f1.f1 p.f1 p.f2 = some true
 | 0, j, K, h, hk => by
  obtain rfl : j = rs.length := by omega
  exact hG K (by omega)
 | m + 1, j, K, h, hk => by
  obtain ⟨K, rfl⟩ : ∃ z, K = z + 1 := ⟨K - 1, by omega⟩
  have hj : j < rs.length := by omega
  have h20 := hlen _ (List.getElem_mem hj)
  have ih := fun K' (hK : F + 120 * m ≤ K') => runs_go hlen hrs F hG m (j + 1) K' (by omega) hK
  rw [isobathtop_TopInside.l1, if_pos (by omega), if_pos (by omega), rd_run rs hj, fetched_ok v t rs[j] p K (by omega), Option.bind_some]
  unfold FetX
  have hno : ∀ e : Int, e ≠ 0 → (if ((0 : Int), e).2 = 0 then isobathtop_TopInside.l2 K t rs (j : Int) ((0 : Int), e).1 ([] : List Int) 0 s.nx s.ny s.cell s.slot s.slots s.layers s.most s.shores s.currents v.speed v.dive v.use.f0 v.use.f1 v.drift.f0 v.drift.f1 v.reserve p.f0.f0.f0 p.f0.f0.f1 p.f0.f1.f0 p.f0.f1.f1 p.f1 p.f2 else if ((0 : Int), e).1 = 0 then isobathtop_TopInside.l1 K t rs (wrap64 ((j : Int) + 1)) s.nx s.ny s.cell s.slot s.slots s.layers s.most s.shores s.currents v.speed v.dive v.use.f0 v.use.f1 v.drift.f0 v.drift.f1 v.reserve p.f0.f0.f0 p.f0.f0.f1 p.f0.f1.f0 p.f0.f1.f1 p.f1 p.f2 else some false) = some true := by
   intro e he
   rw [if_neg he, if_pos rfl, w64_id (x := (j : Int) + 1) (by omega), show (j : Int) + 1 = ((j + 1 : Nat) : Int) from by omega]
   exact ih K (by omega)
  by_cases h1 : vehE v = 0
  ·rw [if_pos h1]
   by_cases h2 : btwB t 0 1073741824 = true
   ·rw [if_pos h2]
    by_cases h3 : boxesE rs[j] = 0
    ·rw [if_pos h3]
     by_cases h4 : pickB p = true
     ·rw [if_pos h4, if_pos rfl]
      have hv : vehB v = true := by
       unfold vehE at h1
       cases hb : vehB v with
       | true => rfl
       | false => rw [hb] at h1; cases h1
      have := run_go s v t p rs hv (btwB_iff.1 h2) h4 j hj (by omega) h3 h20 (fetI v.dive p rs[j] t 0) (F + 120 * m) ih rs[j].length 0 K [] (by omega) (by omega) (Nat.le_refl _) (by simp) (by rw [List.drop_zero, List.nil_append, fet_col, show t + ((0 : Nat) : Int) * v.dive = t from by simp])
      exact this
     ·rw [if_neg h4]; exact hno 2 (by decide)
    ·rw [if_neg h3]; exact hno _ h3
   ·rw [if_neg h2]; exact hno 3 (by decide)
  ·rw [if_neg h1]; exact hno _ h1
/-- The answers for a cell. -/
def ansL (rs : List (List S29)) (x : S29) : List Int := rs.flatMap fun l => l.map fun b => insI b x
theorem ans_fold (x : S29) : ∀ (rs : List (List S29)) (acc : Int), visRs rs x acc = (ansL rs x).foldl max acc
 | [], acc => rfl
 | l :: rs, acc => by
  have e : visRs (l :: rs) x acc = visRs rs x (visR l x acc) := rfl
  rw [e, ans_fold x rs]
  unfold ansL visR
  rw [List.flatMap_cons, List.foldl_append, List.foldl_map]
theorem ans_two (x : S29) (rs : List (List S29)) : ∀ y ∈ ansL rs x, 0 ≤ y ∧ y ≤ 2 := by
 intro y hy
 unfold ansL at hy
 simp only [List.mem_flatMap, List.mem_map] at hy
 obtain ⟨l, _, b, _, rfl⟩ := hy
 exact insI_two _ _
theorem cell_run (cl : S29) (hc : okS cl.f0.f0 cl.f0.f1 = true ∧ okS cl.f1.f0 cl.f1.f1 = true) (vl : List Int) (c : Nat) (j : Nat) (hj : j < rs.length) (hj1 : j < 1000) (hb : ∀ x ∈ rs[j], boxB x = true) (h20 : rs[j].length ≤ 20) (L : List Int) (F : Nat)
  (hG : ∀ K, F ≤ K → isobathtop_TopInside.l4 K rs vl (c : Int) L ((j + 1 : Nat) : Int) s.nx s.ny s.cell s.slot s.slots s.layers s.most s.shores s.currents cl.f0.f0 cl.f0.f1 cl.f1.f0 cl.f1.f1 = some true) (B : Nat) (hB : B < 1000) : ∀ (m i K : Nat) (l : List Int), i + m = rs[j].length → F + m + 10 ≤ K → l.length ≤ B + i → (l ++ (rs[j].drop i).map fun b => insI b cl) = L →
  isobathtop_TopInside.l5 K rs vl (c : Int) l (j : Int) (i : Int) s.nx s.ny s.cell s.slot s.slots s.layers s.most s.shores s.currents cl.f0.f0 cl.f0.f1 cl.f1.f0 cl.f1.f1 = some true
 | 0, i, K, l, h, hk, hl, hX => by
  obtain ⟨K, rfl⟩ : ∃ z, K = z + 1 := ⟨K - 1, by omega⟩
  rw [List.drop_eq_nil_of_le (by omega), List.map_nil, List.append_nil] at hX
  rw [isobathtop_TopInside.l5, if_pos (by omega), if_pos (by omega), rd_run rs hj, if_neg (by omega), w64_id (x := (j : Int) + 1) (by omega), show (j : Int) + 1 = ((j + 1 : Nat) : Int) from by omega, hX]
  exact hG K (by omega)
 | m + 1, i, K, l, h, hk, hl, hX => by
  obtain ⟨K, rfl⟩ : ∃ z, K = z + 1 := ⟨K - 1, by omega⟩
  have hi : i < rs[j].length := by omega
  rw [List.drop_eq_getElem_cons hi, List.map_cons, List.append_cons] at hX
  have ih := cell_run cl hc vl c j hj hj1 hb h20 L F hG B hB m (i + 1) K (l ++ [insI rs[j][i] cl]) (by omega) (by omega) (by rw [List.length_append]; simp; omega) hX
  have hin := within_ok (box_ok (hb _ (List.getElem_mem hi))) hc K (by omega)
  rw [isobathtop_TopInside.l5, if_pos (by omega), if_pos (by omega), rd_run rs hj, if_pos (by omega), if_pos (by omega), rd_box hi, hin, Option.bind_some, if_pos rfl, if_pos (by omega), w64_id (x := (i : Int) + 1) (by omega), show (i : Int) + 1 = ((i + 1 : Nat) : Int) from by omega]
  exact ih
theorem cell_runs (hlen : ∀ l ∈ rs, l.length ≤ 20) (hrs : rs.length ≤ 3) (hbx : ∀ l ∈ rs, ∀ x ∈ l, boxB x = true) (cl : S29) (hc : okS cl.f0.f0 cl.f0.f1 = true ∧ okS cl.f1.f0 cl.f1.f1 = true) (vl : List Int) (c : Nat) (hcv : c < vl.length) (hc1 : c < 1000) (he : rd vl (c : Int) = visRs rs cl 0) (F : Nat) (hF : 10 ≤ F)
  (hG : ∀ K, F ≤ K → isobathtop_TopInside.l3 K rs vl ((c + 1 : Nat) : Int) s.nx s.ny s.cell s.slot s.slots s.layers s.most s.shores s.currents = some true) : ∀ (m j K : Nat) (l : List Int), j + m = rs.length → F + 60 * m + 2 ≤ K → l.length ≤ 20 * j → l ++ ansL (rs.drop j) cl = ansL rs cl →
  isobathtop_TopInside.l4 K rs vl (c : Int) l (j : Int) s.nx s.ny s.cell s.slot s.slots s.layers s.most s.shores s.currents cl.f0.f0 cl.f0.f1 cl.f1.f0 cl.f1.f1 = some true
 | 0, j, K, l, h, hk, hl, hX => by
  obtain ⟨K, rfl⟩ : ∃ z, K = z + 1 := ⟨K - 1, by omega⟩
  rw [List.drop_eq_nil_of_le (by omega), show ansL [] cl = [] from rfl, List.append_nil] at hX
  rw [isobathtop_TopInside.l4, if_neg (by omega), any_ok l (by omega) (by rw [hX]; exact ans_two cl rs), Option.bind_some]
  dsimp only
  rw [if_pos rfl, if_pos (by omega), if_pos (by omega), hX, ← ans_fold, if_pos he.symm, w64_id (x := (c : Int) + 1) (by omega), show (c : Int) + 1 = ((c + 1 : Nat) : Int) from by omega]
  exact hG K (by omega)
 | m + 1, j, K, l, h, hk, hl, hX => by
  obtain ⟨K, rfl⟩ : ∃ z, K = z + 1 := ⟨K - 1, by omega⟩
  have hj : j < rs.length := by omega
  have h20 := hlen _ (List.getElem_mem hj)
  rw [List.drop_eq_getElem_cons hj, show ansL (rs[j] :: rs.drop (j + 1)) cl = (rs[j].map fun b => insI b cl) ++ ansL (rs.drop (j + 1)) cl from List.flatMap_cons .., ← List.append_assoc] at hX
  rw [isobathtop_TopInside.l4, if_pos (by omega)]
  refine cell_run s rs cl hc vl c j hj (by omega) (hbx _ (List.getElem_mem hj)) h20 (l ++ rs[j].map fun b => insI b cl) (F + 60 * m + 2) (fun K' hK => ?_) (20 * j) (by omega) rs[j].length 0 K l (by omega) (by omega) (by omega) (by rw [List.drop_zero])
  exact cell_runs hlen hrs hbx cl hc vl c hcv hc1 he F hF hG m (j + 1) K' _ (by omega) hK (by rw [List.length_append, List.length_map]; omega) hX
/-- All cells, one after another. -/
theorem cells_go (hS : SeaN s) (hlen : ∀ l ∈ rs, l.length ≤ 20) (hrs : rs.length ≤ 3) (hbx : ∀ l ∈ rs, ∀ x ∈ l, boxB x = true) (n : Nat) (hn : n ≤ 144) : ∀ (m c K : Nat), c + m = n → 250 * m + 20 ≤ K →
  isobathtop_TopInside.l3 K rs (visL s rs 0 n) (c : Int) s.nx s.ny s.cell s.slot s.slots s.layers s.most s.shores s.currents = some true
 | 0, c, K, h, hk => by
  obtain ⟨K, rfl⟩ : ∃ z, K = z + 1 := ⟨K - 1, by omega⟩
  have hl : (visL s rs 0 n).length = n := by unfold visL; simp
  rw [isobathtop_TopInside.l3, if_neg (by omega), works (by omega)]
  rfl
 | m + 1, c, K, h, hk => by
  obtain ⟨K, rfl⟩ : ∃ z, K = z + 1 := ⟨K - 1, by omega⟩
  have hl : (visL s rs 0 n).length = n := by unfold visL; simp
  have hr : rd (visL s rs 0 n) (c : Int) = visRs rs (cellV s (c : Int)) 0 := by
   unfold rd visL
   simp [List.getD_eq_getElem?_getD, show c < n by omega]
  have hn1 := hS.nx
  have hcl := hS.cell
  obtain ⟨h1, h2, h3, h4, h5, h6, h7, h8, e1, e2⟩ := cell_num s hS (c := c) (by omega)
  rw [isobathtop_TopInside.l3, if_pos (by omega), if_neg (by omega), e1, e2, w64_id (x := (c : Int) % s.nx * s.cell) (by omega), w64_id (x := (c : Int) % s.nx * s.cell + s.cell) (by omega), w64_id (x := (c : Int) / s.nx) (by omega), w64_id (x := (c : Int) / s.nx * s.cell) (by omega), w64_id (x := (c : Int) / s.nx * s.cell + s.cell) (by omega)]
  exact cell_runs s rs hlen hrs hbx (cellV s (c : Int)) ⟨okS_iff.2 (by unfold cellV; dsimp only; omega), okS_iff.2 (by unfold cellV; dsimp only; omega)⟩ (visL s rs 0 n) c (by omega) (by omega) hr (250 * m + 20) (by omega) (fun K' hK => cells_go hS hlen hrs hbx n hn m (c + 1) K' (by omega) hK) rs.length 0 K [] (by omega) (by omega) (by simp) (by rw [List.drop_zero, List.nil_append])
theorem first_all : ∀ {rs : List (List S29)}, firstE rs = 0 → ∀ l ∈ rs, ∀ x ∈ l, boxB x = true
 | [], _, l, hl => absurd hl List.not_mem_nil
 | a :: rs, h, l, hl => by
  unfold firstE at h
  by_cases q : boxesE a = 0
  ·rw [if_pos q] at h
   rcases List.mem_cons.1 hl with rfl | hl
   ·exact boxes_all q
   ·exact first_all h l hl
  ·rw [if_neg q] at h; exact absurd h q
/-- Behind the runs: the cells. -/
theorem end_go (hlen : ∀ l ∈ rs, l.length ≤ 20) (hrs : rs.length ≤ 3) (hcu : s.currents.length ≤ 100000) (K : Nat) (hk : 150000 ≤ K) :
  isobathtop_TopInside.l1 K t rs (rs.length : Int) s.nx s.ny s.cell s.slot s.slots s.layers s.most s.shores s.currents v.speed v.dive v.use.f0 v.use.f1 v.drift.f0 v.drift.f1 v.reserve p.f0.f0.f0 p.f0.f0.f1 p.f0.f1.f0 p.f0.f1.f1 p.f1 p.f2 = some true := by
 obtain ⟨K, rfl⟩ : ∃ z, K = z + 2 := ⟨K - 2, by omega⟩
 rw [isobathtop_TopInside.l1, if_neg (by omega), vis_some s rs (K + 1) (by omega), Option.bind_some, ref_sea s (K + 1) hcu (by omega), Option.bind_some]
 unfold VisX
 by_cases h0 : seaE s = 0
 ·have hS := seaE_n h0
  have hx := mul_in (a := s.nx) (b := s.ny) (m := 12) (n := 12) (by have := hS.nx; omega) hS.nx.2 (by have := hS.ny; omega) hS.ny.2
  rw [if_pos h0]
  by_cases h1 : runsE rs = 0
  ·have hb : ∀ l ∈ rs, ∀ x ∈ l, boxB x = true := by
    unfold runsE at h1
    rw [if_neg (by omega)] at h1
    by_cases q : rs.any (fun x => decide (64 < x.length)) = true
    ·rw [if_pos q] at h1; cases h1
    ·rw [if_neg q] at h1; exact first_all h1
   have hl : (visL s rs 0 (s.nx * s.ny).toNat).length = (s.nx * s.ny).toNat := by unfold visL; simp
   have hne : (((visL s rs 0 (s.nx * s.ny).toNat).length : Int) != s.nx * s.ny) = false := by
    rw [hl]
    simp
    omega
   rw [if_pos h1]
   dsimp only
   rw [if_pos rfl, if_pos h0, w64_id (x := s.nx * s.ny) (by omega), hne, isobathtop_TopInside.j5, if_neg (by decide)]
   exact cells_go s rs hS hlen hrs hb (s.nx * s.ny).toNat (by omega) (s.nx * s.ny).toNat 0 K (by omega) (by omega)
  ·rw [if_neg h1]
   dsimp only
   rw [if_neg h1, if_pos (show ((([] : List Int).length : Int) = 0) from rfl), works (by omega)]
   rfl
 ·rw [if_neg h0]
  dsimp only
  rw [if_neg h0, if_pos (show ((([] : List Int).length : Int) = 0) from rfl), works (by omega)]
  rfl
/-- First: no run is too long. -/
theorem start_go (hrs : rs.length ≤ 3) (hcu : s.currents.length ≤ 100000) : ∀ (m j K : Nat), j + m = rs.length → 160000 + m ≤ K → (∀ l ∈ rs.take j, l.length ≤ 20) →
  isobathtop_TopInside.l0 K t rs (j : Int) s.nx s.ny s.cell s.slot s.slots s.layers s.most s.shores s.currents v.speed v.dive v.use.f0 v.use.f1 v.drift.f0 v.drift.f1 v.reserve p.f0.f0.f0 p.f0.f0.f1 p.f0.f1.f0 p.f0.f1.f1 p.f1 p.f2 = some true
 | 0, j, K, h, hk, hl => by
  obtain ⟨K, rfl⟩ : ∃ z, K = z + 1 := ⟨K - 1, by omega⟩
  rw [List.take_of_length_le (by omega)] at hl
  rw [isobathtop_TopInside.l0, if_neg (by omega)]
  exact runs_go s v t p rs hl hrs 150000 (fun K' hK => end_go s v t p rs hl hrs hcu K' hK) rs.length 0 K (by omega) (by omega)
 | m + 1, j, K, h, hk, hl => by
  obtain ⟨K, rfl⟩ : ∃ z, K = z + 1 := ⟨K - 1, by omega⟩
  have hj : j < rs.length := by omega
  rw [isobathtop_TopInside.l0, if_pos (by omega), if_pos (by omega), rd_run rs hj]
  by_cases h20 : (rs[j].length : Int) > 20
  ·rw [if_pos h20, works (by omega)]; rfl
  ·rw [if_neg h20, w64_id (x := (j : Int) + 1) (by omega), show (j : Int) + 1 = ((j + 1 : Nat) : Int) from by omega]
   exact start_go hrs hcu m (j + 1) K (by omega) (by omega) (fun l hm => by
    rw [List.take_add_one, List.mem_append] at hm
    rcases hm with hm | hm
    ·exact hl l hm
    ·simp [hj] at hm
     rw [hm]
     omega)
end
end Inside
open Inside in
theorem TopInside : ∀ (x0 : S25) (x1 : S41) (x2 : Int) (x3 : (List (List S29))) (x4 : S44), W25 x0 → W41 x1 → (Lit.int .i64 x2).wf = true → ((∀ y ∈ x3, ((∀ z ∈ y, W29 z) ∧ y.length * Try.prog.bytesOf 29 ≤ reachBytes)) ∧ x3.length * Try.prog.bytesOf 45 ≤ reachBytes) → W44 x4 → ∃ k, isobathtop_TopInside.f k (x0.f0) (x0.f1) (x0.f2) (x0.f3) (x0.f4) (x0.f5) (x0.f6) (x0.f7) (x0.f8) (x1.f0) (x1.f1) (x1.f2.f0) (x1.f2.f1) (x1.f3.f0) (x1.f3.f1) (x1.f4) x2 x3 (x4.f0.f0.f0) (x4.f0.f0.f1) (x4.f0.f1.f0) (x4.f0.f1.f1) (x4.f1) (x4.f2) = some true := by
 intro x0 x1 t rs p g0 g1 g2 g3 g4
 let s : Sea := ⟨x0.f0, x0.f1, x0.f2, x0.f3, x0.f4, x0.f5, x0.f6, x0.f7, x0.f8⟩
 let v : Veh := ⟨x1.f0, x1.f1, ⟨x1.f2.f0, x1.f2.f1⟩, ⟨x1.f3.f0, x1.f3.f1⟩, x1.f4⟩
 refine ⟨170000 + 1, ?_⟩
 unfold isobathtop_TopInside.f isobathtop_large.f
 have hw : ∀ b : Bool, b = true → isobathtop_TopInside.j0 (170000 + 1) t rs b s.nx s.ny s.cell s.slot s.slots s.layers s.most s.shores s.currents v.speed v.dive v.use.f0 v.use.f1 v.drift.f0 v.drift.f1 v.reserve p.f0.f0.f0 p.f0.f0.f1 p.f0.f1.f0 p.f0.f1.f1 p.f1 p.f2 = some true := by
  intro b hb
  rw [isobathtop_TopInside.j0, if_pos hb, works (by omega)]; rfl
 by_cases h1 : (s.shores.length : Int) > 200
 ·rw [if_pos h1, Option.bind_some, if_pos rfl]
  exact hw true rfl
 rw [if_neg h1, Option.bind_some]
 by_cases h2 : (s.currents.length : Int) > 3000
 ·rw [decide_eq_true h2, if_pos rfl]
  exact hw true rfl
 rw [decide_eq_false h2, if_neg (by decide)]
 by_cases h3 : (rs.length : Int) > 3
 ·rw [decide_eq_true h3]
  exact hw true rfl
 rw [decide_eq_false h3, isobathtop_TopInside.j0, if_neg (by decide)]
 exact start_go s v t p rs (by omega) (by omega) rs.length 0 170000 (by omega) (by omega) (by simp)
end Go.Proofs.Ythglkoddmpicdaa.Pure
end
