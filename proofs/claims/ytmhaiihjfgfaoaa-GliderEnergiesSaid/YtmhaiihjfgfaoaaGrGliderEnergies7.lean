/- Part 7 of the proof of GliderEnergies: what the functions compute. No condition. -/
import Derived.Test.YtmhaiihjfgfaoaaGrGliderEnergies1
import Derived.Test.YtmhaiihjfgfaoaaGrGliderEnergies6
import Derived.Test.YtmhaiihjfgfaoaaGrGliderEnergies4
import Derived.Test.YtmhaiihjfgfaoaaGrGliderEnergies5
section
/- The energy that is left, the dives that it lasts, and whether a run is fetched: the program's answers are the definition's. -/
namespace Go.Proofs.Ytmhaiihjfgfaoaa.Pure
open Go.RowKit Go.Proofs.YtmhaiihjfgfaoaaW.PrintWords Go.Proofs.YtmhaiihjfgfaoaaW.PrintLast Go.Proofs.Ytmhaiihjfgfaoaa.Pr Go.Proofs.Ytmhaiihjfgfaoaa.Good Go.Proofs.Ytmhaiihjfgfaoaa.Gl
namespace Ene
theorem works {k : Nat} (h : 60 ≤ k) : isobathlaw03_Works.f k = some true := at_rounds isobathlaw03_Works.mono h isobathlaw03_Works.true_
theorem en_len (v : Veh) : ∀ (l : List S33) (e : S27) (n : Int) (out : List S27), (enI v l e n out).1.length ≤ out.length + l.length
  | [], e, n, out => by unfold enI; simp
  | c :: l, e, n, out => by
    unfold enI
    split
    · simp
    · refine Nat.le_trans (en_len v l _ _ _) ?_
      simp only [List.length_append, List.length_cons, List.length_nil]
      omega
theorem ref_en_loop (v : Veh) (hv : vehB v = true) (l : List S33) (hl : l.length ≤ 64) : ∀ (m i K : Nat) (E : S27) (out : List S27), i + m = l.length → m + 1 ≤ K → out.length = i → (0 ≤ E.f0 ∧ E.f0 ≤ E.f1 ∧ E.f1 ≤ 1073741824) →
    isobathref03_energy.l0 K l out (i : Int) v.speed v.dive v.use.f0 v.use.f1 v.drift.f0 v.drift.f1 v.reserve E.f0 E.f1 = some (enI v (l.drop i) E (i : Int) out)
  | 0, i, K + 1, E, out, h, hk, ho, hE => by
    rw [isobathref03_energy.l0, if_neg (by omega), List.drop_eq_nil_of_le (by omega)]
    unfold enI
    rw [show (l.length : Int) = (i : Int) from by omega]
  | m + 1, i, K + 1, E, out, h, hk, ho, hE => by
    have hi : i < l.length := by omega
    have e : rd_T33 l (i : Int) = l[i] := by
      unfold rd_T33
      simp [hi]
    have hus := vehB_use hv l[i]
    have hres := vehB_res hv
    have htk : isobathref03_Takes.f v.speed v.dive v.use.f0 v.use.f1 v.drift.f0 v.drift.f1 v.reserve l[i].f0 l[i].f1 = some ((takeI v l[i]).f0, (takeI v l[i]).f1) := by
      unfold isobathref03_Takes.f takeI
      split <;> rfl
    rw [List.drop_eq_getElem_cons hi]
    unfold enI
    rw [isobathref03_energy.l0, if_pos (by omega), if_pos (by omega), e, htk, Option.bind_some]
    dsimp only
    rw [w64_id (x := E.f0 - (takeI v l[i]).f1) (by omega), w64_id (x := E.f1 - (takeI v l[i]).f0) (by omega), w64_id (x := (i : Int) + 1) (by omega)]
    by_cases hlow : E.f0 - (takeI v l[i]).f1 < v.reserve
    · rw [if_pos hlow, if_pos hlow]
    · rw [if_neg hlow, if_neg hlow, if_pos (by omega)]
      exact ref_en_loop v hv l hl m (i + 1) K ⟨E.f0 - (takeI v l[i]).f1, E.f1 - (takeI v l[i]).f0⟩ _ (by omega) (by omega) (by rw [List.length_append, ho]; rfl) (by dsimp only; omega)
/-- What Energy returns. -/
def EnX (v : Veh) (e : S27) (l : List S33) : List S27 × Int × Int := if vehE v = 0 then if bndB e.f0 e.f1 0 1073741824 = true then if crsE l (-1) = 0 then enI v l e 0 [] else ([], 0, crsE l (-1)) else ([], 0, 2) else ([], 0, vehE v)
theorem veh_of {v : Veh} (h : vehE v = 0) : vehB v = true := by
  unfold vehE at h
  cases hb : vehB v with
  | true => rfl
  | false => rw [hb] at h; cases h
theorem energy_some (v : Veh) (e : S27) (l : List S33) (K : Nat) (hk : 100 ≤ K) : glider_Energy.f K v.speed v.dive v.use.f0 v.use.f1 v.drift.f0 v.drift.f1 v.reserve e.f0 e.f1 l = some (EnX v e l) := by
  unfold glider_Energy.f EnX
  refine Eq.trans (congrArg (fun o => Option.bind o _) (at_rounds (glider_CheckVehicle.mono _ _ _ _ _ _ _) (show 4 ≤ K by omega) (veh_some v))) ?_
  rw [Option.bind_some]
  by_cases h0 : vehE v = 0
  · rw [if_pos h0, if_pos h0]
    refine Eq.trans (congrArg (fun o => Option.bind o _) (at_rounds (glider_bounded.mono _ _ _ _) (show 2 ≤ K by omega) (bnd_some 0 e.f0 e.f1 0 1073741824))) ?_
    rw [Option.bind_some]
    cases hb : bndB e.f0 e.f1 0 1073741824 with
    | false => rfl
    | true =>
      rw [if_pos rfl, if_pos rfl]
      refine Eq.trans (congrArg (fun o => Option.bind o _) (at_rounds (glider_checkCourses.mono _ _) (show 66 ≤ K by omega) (crs_some l (-1)))) ?_
      rw [Option.bind_some]
      by_cases hc : crsE l (-1) = 0
      · rw [if_pos hc, if_pos hc]
        have hg : (vehB v && bndB e.f0 e.f1 0 1073741824 && decide (l.length ≤ 64)) = true := by rw [veh_of h0, hb, decide_eq_true (crsE_ok hc).1]; rfl
        unfold glider_energy.f
        refine Eq.trans (congrArg (fun o => Option.bind o _) (if_pos hg)) ?_
        rw [Option.bind_some]
      · rw [if_neg hc, if_neg hc]
  · rw [if_neg h0, if_neg h0]
theorem ref_Energy (v : Veh) (e : S27) (l : List S33) (K : Nat) (hk : 100 ≤ K) : isobathref03_Energy.f K v.speed v.dive v.use.f0 v.use.f1 v.drift.f0 v.drift.f1 v.reserve e.f0 e.f1 l = some (EnX v e l) := by
  unfold isobathref03_Energy.f EnX
  rw [ref_veh, Option.bind_some, Option.bind_some, ref_bounded, Option.bind_some]
  by_cases h0 : vehE v = 0
  · rw [if_pos h0, if_pos h0]
    cases hb : bndB e.f0 e.f1 0 1073741824 with
    | false => rfl
    | true =>
      rw [if_pos rfl, if_pos rfl, ref_crs l (-1) K (by omega), Option.bind_some, Option.bind_some]
      by_cases hc : crsE l (-1) = 0
      · rw [if_pos hc, if_pos hc]
        have hbb := bndB_iff.1 hb
        have hl := (crsE_ok hc).1
        have := ref_en_loop v (veh_of h0) l hl l.length 0 K e [] (by omega) (by omega) rfl (by omega)
        rw [List.drop_zero] at this
        unfold isobathref03_energy.f
        refine Eq.trans (congrArg (fun o => Option.bind o _) this) ?_
        rw [Option.bind_some]
        rfl
      · rw [if_neg hc, if_neg hc]
  · rw [if_neg h0, if_neg h0]
theorem EnX_len (v : Veh) (e : S27) (l : List S33) : (EnX v e l).1.length ≤ 64 := by
  unfold EnX
  split
  · split
    · split
      · rename_i hc
        have := en_len v l e 0 []
        have := (crsE_ok hc).1
        simp only [List.length_nil] at *
        omega
      · exact Nat.zero_le _
    · exact Nat.zero_le _
  · exact Nat.zero_le _
theorem lasts_eq (v : Veh) (e : S27) (K : Nat) (hk : 100 ≤ K) : ∃ R, glider_Lasts.f K v.speed v.dive v.use.f0 v.use.f1 v.drift.f0 v.drift.f1 v.reserve e.f0 e.f1 = some R ∧ isobathref03_Lasts.f v.speed v.dive v.use.f0 v.use.f1 v.drift.f0 v.drift.f1 v.reserve e.f0 e.f1 = some R := by
  have h1 : glider_Lasts.f K v.speed v.dive v.use.f0 v.use.f1 v.drift.f0 v.drift.f1 v.reserve e.f0 e.f1 = isobathref03_Lasts.f v.speed v.dive v.use.f0 v.use.f1 v.drift.f0 v.drift.f1 v.reserve e.f0 e.f1 := by
    unfold glider_Lasts.f isobathref03_Lasts.f
    rw [ref_veh, Option.bind_some, Option.bind_some, ref_bounded, Option.bind_some]
    refine Eq.trans (congrArg (fun o => Option.bind o _) (at_rounds (glider_CheckVehicle.mono _ _ _ _ _ _ _) (show 4 ≤ K by omega) (veh_some v))) ?_
    rw [Option.bind_some]
    by_cases h0 : vehE v = 0
    · rw [if_pos h0, if_pos h0]
      refine Eq.trans (congrArg (fun o => Option.bind o _) (at_rounds (glider_bounded.mono _ _ _ _) (show 2 ≤ K by omega) (bnd_some 0 e.f0 e.f1 0 1073741824))) ?_
      rw [Option.bind_some]
    · rw [if_neg h0, if_neg h0]
  unfold isobathref03_Lasts.f at h1 ⊢
  rw [ref_veh, Option.bind_some, Option.bind_some, ref_bounded, Option.bind_some] at h1 ⊢
  rw [h1]
  split
  · split
    · split
      · exact ⟨_, rfl, rfl⟩
      · split
        · exact ⟨_, rfl, rfl⟩
        · exact ⟨_, rfl, rfl⟩
    · exact ⟨_, rfl, rfl⟩
  · exact ⟨_, rfl, rfl⟩
theorem ref_In (a b : S27) (K : Nat) (hk : 2 ≤ K) : isobathref01_In.f K a.f0 a.f1 b.f0 b.f1 = some (inI a b, inE a b) := by
  obtain ⟨K, rfl⟩ : ∃ z, K = z + 2 := ⟨K - 2, by omega⟩
  unfold isobathref01_In.f inI inE
  rw [ref_valid, ref_valid, Option.bind_some, Option.bind_some]
  cases ha : okS a.f0 a.f1 with
  | false => rfl
  | true =>
    cases hb : okS b.f0 b.f1 with
    | false => rfl
    | true =>
      have h1 := okS_iff.1 ha
      have h2 := okS_iff.1 hb
      rw [if_pos rfl, isobathref01_In.j0, if_neg (by decide), if_pos (show (true && true) = true from rfl), if_pos (show (true && true) = true from rfl)]
      by_cases q1 : a.f0 ≥ b.f0
      · rw [if_pos q1, isobathref01_In.j1]
        by_cases q2 : a.f1 ≤ b.f1
        · rw [if_pos (decide_eq_true q2), if_pos (by omega), if_pos (by omega)]
        · rw [if_neg (by simp only [decide_eq_true_eq]; exact q2), if_neg (by omega)]
          by_cases q3 : a.f0 > b.f1
          · rw [if_pos q3, if_neg (by omega)]
          · rw [if_neg q3, if_pos (by omega), if_neg (by omega)]
      · rw [if_neg q1, isobathref01_In.j1, if_neg (by decide)]
        by_cases q3 : a.f1 < b.f0
        · rw [if_pos q3, if_neg (by omega)]
        · rw [if_neg q3]
          by_cases q4 : a.f0 > b.f1
          · rw [if_pos q4, if_neg (by omega)]
          · rw [if_neg q4, if_pos (by omega), if_neg (by omega)]
theorem ref_Inside (x y : S31) (K : Nat) (hk : 2 ≤ K) : isobathref03_Inside.f K x.f0.f0 x.f0.f1 x.f1.f0 x.f1.f1 y.f0.f0 y.f0.f1 y.f1.f0 y.f1.f1 = some (insI x y) := by
  unfold isobathref03_Inside.f insI
  rw [ref_In _ _ K hk, Option.bind_some, ref_In _ _ K hk, Option.bind_some]
  dsimp only
  rw [mn_min']
theorem ref_boxes_loop (l : List S31) (hl : l.length ≤ 64) : ∀ (m i K : Nat), i + m = l.length → m + 1 ≤ K → isobathref03_boxes.l0 K l (i : Int) = some (if (l.drop i).any (fun x => !boxB x) then 2 else 0)
  | 0, i, K + 1, h, hk => by
    rw [isobathref03_boxes.l0, if_neg (by omega), List.drop_eq_nil_of_le (by omega)]; rfl
  | m + 1, i, K + 1, h, hk => by
    have hi : i < l.length := by omega
    have e : rd_T31 l (i : Int) = l[i] := by
      unfold rd_T31
      simp [hi]
    have ih := ref_boxes_loop l hl m (i + 1) K (by omega) (by omega)
    rw [isobathref03_boxes.l0, if_pos (by omega), if_pos (by omega), e, ref_box, Option.bind_some, w64_id (x := (i : Int) + 1) (by omega), show (i : Int) + 1 = ((i + 1 : Nat) : Int) from by omega, ih, List.drop_eq_getElem_cons hi, List.any_cons]
    cases boxB l[i] <;> rfl
theorem ref_boxes (l : List S31) (K : Nat) (hk : 66 ≤ K) : isobathref03_boxes.f K l = some (boxesE l) := by
  unfold isobathref03_boxes.f boxesE
  by_cases h : l.length > 64
  · rw [if_pos (by omega), if_pos h]
  · rw [if_neg (by omega), if_neg h]
    have := ref_boxes_loop l (by omega) l.length 0 K (by omega) (by omega)
    rw [List.drop_zero] at this
    exact this
/-- Is a run fetched? -/
def fetI (dive : Int) (p : S81) : List S31 → Int → Int → Int
  | [], _, acc => acc
  | x :: l, t, acc => fetI dive p l (t + dive) (if p.f1 ≤ t + dive ∧ t + dive ≤ p.f2 then max acc (insI x p.f0) else acc)
theorem fet_loop (v : Veh) (hv : vehB v = true) (p : S81) (l : List S31) (hl : l.length ≤ 64) : ∀ (m i K : Nat) (t acc : Int), i + m = l.length → m + 1 ≤ K → (0 ≤ t ∧ t ≤ 1073741824 + (i : Int) * 131072) →
    glider_fetched.l0 K t acc l (l.length : Int) (i : Int) v.speed v.dive v.use.f0 v.use.f1 v.drift.f0 v.drift.f1 v.reserve p.f0.f0.f0 p.f0.f0.f1 p.f0.f1.f0 p.f0.f1.f1 p.f1 p.f2 = some (fetI v.dive p (l.drop i) t acc)
  | 0, i, K + 1, t, acc, h, hk, h0 => by
    rw [glider_fetched.l0, if_neg (by omega), List.drop_eq_nil_of_le (by omega)]; rfl
  | m + 1, i, K + 1, t, acc, h, hk, h0 => by
    have hi : i < l.length := by omega
    have e : rd_T31 l (i : Int) = l[i] := by
      unfold rd_T31
      simp [hi]
    have hd : 1 ≤ v.dive ∧ v.dive ≤ 131072 := by
      unfold vehB at hv
      simp only [Bool.and_eq_true, btwB_iff] at hv
      omega
    rw [List.drop_eq_getElem_cons hi]
    unfold fetI
    rw [glider_fetched.l0, if_pos (by omega), if_pos (by omega), if_pos (by omega), e, w64_id (x := t + v.dive) (by omega), w64_id (x := (i : Int) + 1) (by omega), btw_some, Option.bind_some]
    have hin : glider_inside.f l[i].f0.f0 l[i].f0.f1 l[i].f1.f0 l[i].f1.f1 p.f0.f0.f0 p.f0.f0.f1 p.f0.f1.f0 p.f0.f1.f1 = some (insI l[i] p.f0) := rfl
    rw [hin, Option.bind_some]
    have ih := fun acc2 => fet_loop v hv p l hl m (i + 1) K (t + v.dive) acc2 (by omega) (by omega) ⟨by omega, by omega⟩
    by_cases hb : p.f1 ≤ t + v.dive ∧ t + v.dive ≤ p.f2
    · rw [if_pos (btwB_iff.2 hb), if_pos hb, mx_max']
      exact ih _
    · rw [if_neg (fun hq => hb (btwB_iff.1 hq)), if_neg hb]
      exact ih _
theorem ref_fet_loop (v : Veh) (hv : vehB v = true) (p : S81) (t : Int) (ht : 0 ≤ t ∧ t ≤ 1073741824) (l : List S31) (hl : l.length ≤ 64) : ∀ (m i K : Nat) (T acc : Int), i + m = l.length → m + 3 ≤ K → T = t + (i : Int) * v.dive →
    isobathref03_fetched.l0 K t l acc (i : Int) v.speed v.dive v.use.f0 v.use.f1 v.drift.f0 v.drift.f1 v.reserve p.f0.f0.f0 p.f0.f0.f1 p.f0.f1.f0 p.f0.f1.f1 p.f1 p.f2 = some (fetI v.dive p (l.drop i) T acc)
  | 0, i, K + 1, T, acc, h, hk, hT => by
    rw [isobathref03_fetched.l0, if_neg (by omega), List.drop_eq_nil_of_le (by omega)]; rfl
  | m + 1, i, K + 1, T, acc, h, hk, hT => by
    have hi : i < l.length := by omega
    have e : rd_T31 l (i : Int) = l[i] := by
      unfold rd_T31
      simp [hi]
    have hd : 1 ≤ v.dive ∧ v.dive ≤ 131072 := by
      unfold vehB at hv
      simp only [Bool.and_eq_true, btwB_iff] at hv
      omega
    have hm := mul_in (a := (i : Int) + 1) (b := v.dive) (m := 65) (n := 131072) (by omega) (by omega) (by omega) (by omega)
    have hT2 : T + v.dive = t + ((i : Int) + 1) * v.dive := by rw [hT, Int.add_mul, Int.one_mul]; omega
    have ih := fun acc2 => ref_fet_loop v hv p t ht l hl m (i + 1) K (T + v.dive) acc2 (by omega) (by omega) (by rw [hT2]; rfl)
    rw [List.drop_eq_getElem_cons hi]
    unfold fetI
    rw [isobathref03_fetched.l0, if_pos (by omega), w64_id (x := (i : Int) + 1) (by omega), w64_id (x := ((i : Int) + 1) * v.dive) (by omega), w64_id (x := t + ((i : Int) + 1) * v.dive) (by omega), e, ← hT2, ref_Inside _ _ K (by omega), Option.bind_some, if_pos (show 0 ≤ (i : Int) by omega), mx_max']
    by_cases h1 : p.f1 ≤ T + v.dive
    · rw [if_pos h1]
      by_cases h2 : T + v.dive ≤ p.f2
      · rw [if_pos h2, if_pos ⟨h1, h2⟩]
        exact ih _
      · rw [if_neg h2, if_neg (fun q => h2 q.2)]
        exact ih _
    · rw [if_neg h1, if_neg (fun q => h1 q.1)]
      exact ih _
theorem pick_eq (p : S81) (K : Nat) (hk : 4 ≤ K) : ∃ b, glider_validPickup.f K p.f0.f0.f0 p.f0.f0.f1 p.f0.f1.f0 p.f0.f1.f1 p.f1 p.f2 = some b ∧ isobathref03_pickup.f p.f0.f0.f0 p.f0.f0.f1 p.f0.f1.f0 p.f0.f1.f1 p.f1 p.f2 = some b := by
  unfold glider_validPickup.f isobathref03_pickup.f
  rw [ref_box, Option.bind_some]
  have h1 := at_rounds (bound_CheckBox.mono _ _ _ _) hk (box_some p.f0)
  rw [h1, Option.bind_some]
  unfold boxE
  cases boxB p.f0 with
  | false => exact ⟨false, rfl, rfl⟩
  | true =>
    rw [if_pos rfl, if_pos rfl, if_pos rfl]
    split
    · split
      · exact ⟨_, rfl, rfl⟩
      · exact ⟨_, rfl, rfl⟩
    · exact ⟨_, rfl, rfl⟩
theorem fetched_eq (v : Veh) (t : Int) (l : List S31) (p : S81) (K : Nat) (hk : 100 ≤ K) : ∃ R, glider_Fetched.f K v.speed v.dive v.use.f0 v.use.f1 v.drift.f0 v.drift.f1 v.reserve t l p.f0.f0.f0 p.f0.f0.f1 p.f0.f1.f0 p.f0.f1.f1 p.f1 p.f2 = some R ∧ isobathref03_Fetched.f K v.speed v.dive v.use.f0 v.use.f1 v.drift.f0 v.drift.f1 v.reserve t l p.f0.f0.f0 p.f0.f0.f1 p.f0.f1.f0 p.f0.f1.f1 p.f1 p.f2 = some R := by
  obtain ⟨K, rfl⟩ : ∃ z, K = z + 1 := ⟨K - 1, by omega⟩
  unfold glider_Fetched.f isobathref03_Fetched.f
  have hveh := at_rounds (glider_CheckVehicle.mono _ _ _ _ _ _ _) (show 4 ≤ K + 1 by omega) (veh_some v)
  rw [ref_veh, Option.bind_some, Option.bind_some, hveh, Option.bind_some]
  by_cases h0 : vehE v = 0
  · rw [if_pos h0, if_pos h0, btw_some, Option.bind_some]
    have hj : isobathref03_Fetched.j0 (K + 1) t l true v.speed v.dive v.use.f0 v.use.f1 v.drift.f0 v.drift.f1 v.reserve p.f0.f0.f0 p.f0.f0.f1 p.f0.f1.f0 p.f0.f1.f1 p.f1 p.f2 = some (0, 3) := by rw [isobathref03_Fetched.j0, if_pos rfl]
    by_cases h1 : t < 0
    · rw [if_neg (fun q => by have := btwB_iff.1 q; omega), if_pos h1, hj]
      exact ⟨_, rfl, rfl⟩
    rw [if_neg h1]
    by_cases h2 : t > 1073741824
    · rw [if_neg (fun q => by have := btwB_iff.1 q; omega), decide_eq_true h2, hj]
      exact ⟨_, rfl, rfl⟩
    rw [if_pos (btwB_iff.2 (by omega)), decide_eq_false h2, isobathref03_Fetched.j0, if_neg (by decide), ref_boxes l K (by omega), Option.bind_some, Option.bind_some]
    unfold glider_checkBoxes.f
    rw [Option.bind_some]
    by_cases h3 : boxesE l = 0
    · rw [if_pos h3, if_pos h3]
      have hl : l.length ≤ 64 := by
        unfold boxesE at h3
        by_cases q : l.length > 64
        · rw [if_pos q] at h3; cases h3
        · omega
      obtain ⟨b, hb1, hb2⟩ := pick_eq p (K + 1) (by omega)
      rw [hb1, hb2, Option.bind_some, Option.bind_some]
      cases b with
      | false => exact ⟨_, rfl, rfl⟩
      | true =>
        rw [if_pos rfl, if_pos rfl]
        have f1 := fet_loop v (veh_of h0) p l hl l.length 0 (K + 1) t 0 (by omega) (by omega) ⟨by omega, by omega⟩
        have f2 := ref_fet_loop v (veh_of h0) p t (by omega) l hl l.length 0 K t 0 (by omega) (by omega) (by simp)
        refine ⟨(fetI v.dive p (List.drop 0 l) t 0, 0), ?_, ?_⟩
        · unfold glider_fetched.f
          refine Eq.trans (congrArg (fun o => Option.bind o _) f1) ?_
          rw [Option.bind_some]
        · unfold isobathref03_fetched.f
          refine Eq.trans (congrArg (fun o => Option.bind o _) f2) ?_
          rw [Option.bind_some]
    · rw [if_neg h3, if_neg h3]
      exact ⟨_, rfl, rfl⟩
  · rw [if_neg h0, if_neg h0]
    exact ⟨_, rfl, rfl⟩
theorem law_loop (v : Veh) (e : S27) (t : Int) (l : List S31) (p : S81) (R : List S27) (hR : R.length ≤ 64) : ∀ (m i K : Nat), i + m = R.length → m + 200 ≤ K →
    isobathlaw03_GliderEnergies.l0 K t l R R (i : Int) v.speed v.dive v.use.f0 v.use.f1 v.drift.f0 v.drift.f1 v.reserve e.f0 e.f1 p.f0.f0.f0 p.f0.f0.f1 p.f0.f1.f0 p.f0.f1.f1 p.f1 p.f2 = some true
  | 0, i, K + 1, h, hk => by
    rw [isobathlaw03_GliderEnergies.l0, if_neg (by omega)]
    obtain ⟨R1, a1, a2⟩ := lasts_eq v e K (by omega)
    obtain ⟨R2, b1, b2⟩ := fetched_eq v t l p K (by omega)
    rw [a1, Option.bind_some, a2, Option.bind_some, b1, Option.bind_some, b2, Option.bind_some, if_pos rfl, if_pos rfl, if_pos rfl, if_pos rfl, works (by omega)]
    rfl
  | m + 1, i, K + 1, h, hk => by
    rw [isobathlaw03_GliderEnergies.l0, if_pos (by omega), if_pos (by omega), if_pos (by omega), if_neg (by simp), w64_id (x := (i : Int) + 1) (by omega)]
    exact law_loop v e t l p R hR m (i + 1) K (by omega) (by omega)
end Ene
open Ene in
theorem GliderEnergies : ∀ (x0 : S29) (x1 : S27) (x2 : (List S33)) (x3 : Int) (x4 : (List S31)) (x5 : S81), W29 x0 → W27 x1 → ((∀ y ∈ x2, W33 y) ∧ x2.length * Try.prog.bytesOf 33 ≤ reachBytes) → (Lit.int .i64 x3).wf = true → ((∀ y ∈ x4, W31 y) ∧ x4.length * Try.prog.bytesOf 31 ≤ reachBytes) → W81 x5 → ∃ k, isobathlaw03_GliderEnergies.f k (x0.f0) (x0.f1) (x0.f2.f0) (x0.f2.f1) (x0.f3.f0) (x0.f3.f1) (x0.f4) (x1.f0) (x1.f1) x2 x3 x4 (x5.f0.f0.f0) (x5.f0.f0.f1) (x5.f0.f1.f0) (x5.f0.f1.f1) (x5.f1) (x5.f2) = some true := by
  intro x0 x1 x2 x3 x4 x5 g0 g1 g2 g3 g4 g5
  let v : Veh := ⟨x0.f0, x0.f1, ⟨x0.f2.f0, x0.f2.f1⟩, ⟨x0.f3.f0, x0.f3.f1⟩, x0.f4⟩
  refine ⟨400, ?_⟩
  have ht : isobathlaw03_GliderEnergies.j0 400 x2 x3 x4 true v.speed v.dive v.use.f0 v.use.f1 v.drift.f0 v.drift.f1 v.reserve x1.f0 x1.f1 x5.f0.f0.f0 x5.f0.f0.f1 x5.f0.f1.f0 x5.f0.f1.f1 x5.f1 x5.f2 = some true := by
    rw [isobathlaw03_GliderEnergies.j0, if_pos rfl, works (by omega)]; rfl
  have hf : isobathlaw03_GliderEnergies.j0 400 x2 x3 x4 false v.speed v.dive v.use.f0 v.use.f1 v.drift.f0 v.drift.f1 v.reserve x1.f0 x1.f1 x5.f0.f0.f0 x5.f0.f0.f1 x5.f0.f1.f0 x5.f0.f1.f1 x5.f1 x5.f2 = some true := by
    rw [isobathlaw03_GliderEnergies.j0, if_neg (by decide), energy_some v x1 x2 399 (by omega), Option.bind_some, ref_Energy v x1 x2 399 (by omega), Option.bind_some, if_pos rfl, if_pos rfl, isobathlaw03_GliderEnergies.j1, if_neg (by simp)]
    exact law_loop v x1 x3 x4 x5 (EnX v x1 x2).1 (EnX_len v x1 x2) (EnX v x1 x2).1.length 0 398 (by omega) (by have := EnX_len v x1 x2; omega)
  unfold isobathlaw03_GliderEnergies.f
  by_cases h1 : (x2.length : Int) > 70
  · exact (if_pos h1).trans ht
  · refine (if_neg h1).trans ?_
    cases decide ((x4.length : Int) > 70)
    · exact hf
    · exact ht
end Go.Proofs.Ytmhaiihjfgfaoaa.Pure
end
