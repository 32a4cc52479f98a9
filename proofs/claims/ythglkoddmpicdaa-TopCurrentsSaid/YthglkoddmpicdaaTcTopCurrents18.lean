/- Part 18 of the proof of TopCurrents: what the functions compute. No condition. -/
import Derived.Test.YthglkoddmpicdaaTcTopCurrents3
import Derived.Test.YthglkoddmpicdaaTcTopCurrents16
import Derived.Test.YthglkoddmpicdaaTcTopCurrents17
set_option linter.unusedVariables false
set_option linter.unusedSimpArgs false
section
/- The current at a box is the hull of the currents of all cells that it meets: the pure statement about what the program computes. -/
namespace Go.Proofs.Ythglkoddmpicdaa.Pure
open Go.RowKit Go.Proofs.YthglkoddmpicdaaW.PrintWords Go.Proofs.YthglkoddmpicdaaW.PrintLast Go.Proofs.Ythglkoddmpicdaa.Pr Go.Proofs.Ythglkoddmpicdaa.Good Go.Proofs.Ythglkoddmpicdaa.Gl
namespace Currents
theorem works {k : Nat} (h : 12 ≤ k) : isobathtop_works03.f k = some true := at_rounds isobathtop_works03.mono h (by kernel_rfl)
/-- Spans that layer 1 takes. -/
def OkB (y : S29) : Prop := okS y.f0.f0 y.f0.f1 = true ∧ okS y.f1.f0 y.f1.f1 = true
theorem hull_ok {a b : S29} (ha : OkB a) (hb : OkB b) : OkB (hullB a b) := by
 unfold OkB hullB at *
 simp only [okS_iff] at *
 omega
theorem meet_ok (k : Nat) {a b c d : Int} (h1 : okS a b = true) (h2 : okS c d = true) : ∃ p q, bound_Meet.f (k + 3) a b c d = some (p, q, if decide (a ≤ d) && decide (c ≤ b) then 0 else 5) := by
 unfold bound_Meet.f bound_meet.f
 rw [check_two, Option.bind_some]
 dsimp only
 rw [h1, h2]
 rw [if_pos (by decide), Option.bind_some, mx_max', mn_min']
 have a1 := okS_iff.1 h1
 have a2 := okS_iff.1 h2
 by_cases g : a ≤ d
 ·by_cases g2 : c ≤ b
  ·rw [decide_eq_true g, decide_eq_true g2, decide_eq_true (show max a c ≤ min b d by omega)]
   exact ⟨_, _, rfl⟩
  ·rw [decide_eq_true g, decide_eq_false g2, decide_eq_false (show ¬ max a c ≤ min b d by omega)]
   exact ⟨_, _, rfl⟩
 ·rw [decide_eq_false g, decide_eq_false (show ¬ max a c ≤ min b d by omega)]
  exact ⟨_, _, rfl⟩
theorem hullS_ok (k : Nat) {a b c d : Int} (h1 : okS a b = true) (h2 : okS c d = true) : bound_Hull.f (k + 3) a b c d = some (min a c, max b d, 0) := by
 unfold bound_Hull.f bound_least.f slices_Min_int64_int64.f slices_Max_int64_int64.f
 rw [check_two, Option.bind_some]
 dsimp only
 rw [h1, h2]
 rw [if_pos (by decide), if_neg (by simp), if_neg (by simp), Option.bind_some, Option.bind_some, Option.bind_some]
 have a1 := okS_iff.1 h1
 have a2 := okS_iff.1 h2
 have e1 : Tp.mnL [a, b, c, d] = min a c := by
  show mn (mn (mn a b) c) d = _
  simp only [mn_min']
  omega
 have e2 : Tp.mxL [a, b, c, d] = max b d := by
  show mx (mx (mx a b) c) d = _
  simp only [mx_max']
  omega
 rw [e1, e2]
theorem cells (s : Sea) (x : S29) (layer t u j e0 e1 e2 e3 : Int) (hS : SeaV s) (hx : OkB x) (hl0 : 0 ≤ layer) (hl1 : layer < s.layers) (hj0 : 0 ≤ j) (hj1 : j < s.slots) : ∀ (m : Nat) (c : Int) (k : Nat) (l : List S29), 0 ≤ c → c + (m : Int) = s.nx * s.ny → OkB (outV l) →
  OkB (outV (l ++ refC s x layer j m c)) ∧ isobathtop_TopCurrents.l1 (3 * m + 1 + (k + 4)) layer t u (s.nx * s.ny) (!l.isEmpty) j c s.nx s.ny s.cell s.slot s.slots s.layers s.most s.shores s.currents x.f0.f0 x.f0.f1 x.f1.f0 x.f1.f1 e0 e1 e2 e3 (outV l).f0.f0 (outV l).f0.f1 (outV l).f1.f0 (outV l).f1.f1
   = isobathtop_TopCurrents.l0 (k + 4) layer t u (s.nx * s.ny) (!(l ++ refC s x layer j m c).isEmpty) (j + 1) s.nx s.ny s.cell s.slot s.slots s.layers s.most s.shores s.currents x.f0.f0 x.f0.f1 x.f1.f0 x.f1.f1 e0 e1 e2 e3 (outV (l ++ refC s x layer j m c)).f0.f0 (outV (l ++ refC s x layer j m c)).f0.f1 (outV (l ++ refC s x layer j m c)).f1.f0 (outV (l ++ refC s x layer j m c)).f1.f1
 | 0, c, k, l, h0, h, ho => by
  have n5 := hS.n.slots
  rw [refC, List.append_nil]
  refine ⟨ho, ?_⟩
  rw [show 3 * 0 + 1 + (k + 4) = (k + 4) + 1 from by omega, isobathtop_TopCurrents.l1, if_neg (by omega), w64_id (x := j + 1) (by omega)]
 | m + 1, c, k, l, h0, h, ho => by
  have n1 := hS.n.nx; have n2 := hS.n.ny; have n3 := hS.n.cell; have n5 := hS.n.slots; have n6 := hS.n.layers
  have hcu := hS.cu
  obtain ⟨p0, p1⟩ := mul_in (a := s.nx) (b := s.ny) (m := 12) (n := 12) (by omega) (by omega) (by omega) (by omega)
  obtain ⟨i0, i1⟩ := index_in (q := j) (l := layer) (k := s.nx * s.ny) (c := c) (ll := s.slots) (kk := s.layers) hj0 hj1 hl0 hl1 h0 (by omega)
  obtain ⟨a0, a1⟩ := mul_in (a := j) (b := s.layers) (m := 16) (n := 3) (by omega) (by omega) (by omega) (by omega)
  obtain ⟨b0, b1⟩ := mul_in (a := j * s.layers + layer) (b := s.nx * s.ny) (m := 51) (n := 144) (by omega) (by omega) (by omega) (by omega)
  have hidx : wrap64 (wrap64 (wrap64 (wrap64 (j * s.layers) + layer) * (s.nx * s.ny)) + c) = (j * s.layers + layer) * (s.nx * s.ny) + c := by
   rw [w64_id (x := j * s.layers) (by omega), w64_id (x := j * s.layers + layer) (by omega), w64_id (x := (j * s.layers + layer) * (s.nx * s.ny)) (by omega), w64_id (by omega)]
  have pn : 0 < s.nx := by omega
  have hi0 : 0 ≤ c % s.nx := Int.emod_nonneg _ (by omega)
  have hi1 : c % s.nx < s.nx := Int.emod_lt_of_pos c pn
  have hr0 : 0 ≤ c / s.nx := Int.ediv_nonneg h0 (by omega)
  have hr1 : c / s.nx < s.ny := (Int.ediv_lt_iff_lt_mul (a := c) (b := s.ny) pn).2 (by rw [Int.mul_comm]; omega)
  obtain ⟨x0, x1⟩ := mul_in (a := c % s.nx) (b := s.cell) (m := 12) (n := 65536) (by omega) (by omega) (by omega) (by omega)
  obtain ⟨y0, y1⟩ := mul_in (a := c / s.nx) (b := s.cell) (m := 12) (n := 65536) (by omega) (by omega) (by omega) (by omega)
  obtain ⟨q1, q2, hm1⟩ := meet_ok (3 * m + k + 4) hx.1 (show okS (c % s.nx * s.cell) (c % s.nx * s.cell + s.cell) = true from okS_iff.2 (by omega))
  obtain ⟨q3, q4, hm2⟩ := meet_ok (3 * m + k + 4) hx.2 (show okS (c / s.nx * s.cell) (c / s.nx * s.cell + s.cell) = true from okS_iff.2 (by omega))
  have ea : (c % s.nx + 1) * s.cell = c % s.nx * s.cell + s.cell := by rw [Int.add_mul, Int.one_mul]
  have eb : (c / s.nx + 1) * s.cell = c / s.nx * s.cell + s.cell := by rw [Int.add_mul, Int.one_mul]
  have hok : OkB (curB s layer j c) := by
   have hlt : ((j * s.layers + layer) * (s.nx * s.ny) + c).toNat < s.currents.length := by omega
   have e : rd_T33 s.currents ((j * s.layers + layer) * (s.nx * s.ny) + c) = s.currents[((j * s.layers + layer) * (s.nx * s.ny) + c).toNat] := by
    unfold rd_T33
    simp [hlt]
   have := hS.cb _ (List.getElem_mem hlt)
   unfold OkB curB
   dsimp only
   rw [e, okS_iff, okS_iff]
   omega
  have et : touchR s x c = ((decide (x.f0.f0 ≤ (c % s.nx + 1) * s.cell) && decide (c % s.nx * s.cell ≤ x.f0.f1)) && (decide (x.f1.f0 ≤ (c / s.nx + 1) * s.cell) && decide (c / s.nx * s.cell ≤ x.f1.f1))) := rfl
  rw [ea, eb] at et
  have e9 : isobathtop_TopCurrents.l1 (3 * (m + 1) + 1 + (k + 4)) layer t u (s.nx * s.ny) (!l.isEmpty) j c s.nx s.ny s.cell s.slot s.slots s.layers s.most s.shores s.currents x.f0.f0 x.f0.f1 x.f1.f0 x.f1.f1 e0 e1 e2 e3 (outV l).f0.f0 (outV l).f0.f1 (outV l).f1.f0 (outV l).f1.f1
    = isobathtop_TopCurrents.j4 (3 * m + 1 + (k + 4) + 1) layer t u (s.nx * s.ny) (!l.isEmpty) j c (!touchR s x c) s.nx s.ny s.cell s.slot s.slots s.layers s.most s.shores s.currents x.f0.f0 x.f0.f1 x.f1.f0 x.f1.f1 e0 e1 e2 e3 (outV l).f0.f0 (outV l).f0.f1 (outV l).f1.f0 (outV l).f1.f1 := by
   rw [show 3 * (m + 1) + 1 + (k + 4) = (3 * m + k + 4 + 3) + 1 from by omega, isobathtop_TopCurrents.l1, if_pos (by omega), if_neg (by omega), Int.tmod_eq_emod_of_nonneg h0, Int.tdiv_eq_ediv_of_nonneg h0, w64_id (x := c / s.nx) (by omega), w64_id (x := c % s.nx * s.cell) (by omega), w64_id (x := c / s.nx * s.cell) (by omega), w64_id (x := c % s.nx * s.cell + s.cell) (by omega), w64_id (x := c / s.nx * s.cell + s.cell) (by omega), hm1, hm2, Option.bind_some, Option.bind_some, et]
   rw [show 3 * m + k + 4 + 3 = (3 * m + 1 + (k + 4) + 1) + 1 from by omega]
   dsimp only
   cases (decide (x.f0.f0 ≤ c % s.nx * s.cell + s.cell) && decide (c % s.nx * s.cell ≤ x.f0.f1)) <;> cases (decide (x.f1.f0 ≤ c / s.nx * s.cell + s.cell) && decide (c / s.nx * s.cell ≤ x.f1.f1)) <;> rfl
  rw [e9, isobathtop_TopCurrents.j4, refC, hidx, w64_id (x := c + 1) (by omega)]
  by_cases ht : touchR s x c = true
  ·rw [ht, if_pos (rfl : true = true), if_neg (show ¬ (!true) = true by decide), if_pos i0, if_pos (by omega), ← List.append_assoc]
   have hcr : (⟨(rd_T33 s.currents ((j * s.layers + layer) * (s.nx * s.ny) + c)).f0, (rd_T33 s.currents ((j * s.layers + layer) * (s.nx * s.ny) + c)).f1⟩ : S29) = curB s layer j c := rfl
   have hov := outV_snoc l (curB s layer j c)
   by_cases he : (!l.isEmpty) = true
   ·rw [if_pos he] at hov
    have ih := cells s x layer t u j e0 e1 e2 e3 hS hx hl0 hl1 hj0 hj1 m (c + 1) k (l ++ [curB s layer j c]) (by omega) (by omega) (by rw [hov]; exact hull_ok ho hok)
    refine ⟨ih.1, Eq.trans ?_ ih.2⟩
    rw [if_pos he, isEmpty_snoc, hov]
    have h1 := hullS_ok (3 * m + 1 + (k + 1)) ho.1 hok.1
    have h2 := hullS_ok (3 * m + 1 + (k + 1)) ho.2 hok.2
    refine Eq.trans (congrArg (fun o => Option.bind o _) h1) ?_
    rw [Option.bind_some]
    refine Eq.trans (congrArg (fun o => Option.bind o _) h2) ?_
    rw [Option.bind_some, if_pos rfl, if_pos rfl, he]
    rfl
   ·rw [if_neg he] at hov
    have ih := cells s x layer t u j e0 e1 e2 e3 hS hx hl0 hl1 hj0 hj1 m (c + 1) k (l ++ [curB s layer j c]) (by omega) (by omega) (by rw [hov]; exact hok)
    refine ⟨ih.1, Eq.trans ?_ ih.2⟩
    rw [if_neg he, isEmpty_snoc, hov]
    rfl
  ·rw [if_neg ht, List.nil_append, show touchR s x c = false from by simpa using ht, if_pos (show (!false) = true from rfl)]
   exact cells s x layer t u j e0 e1 e2 e3 hS hx hl0 hl1 hj0 hj1 m (c + 1) k l (by omega) (by omega) ho
set_option maxRecDepth 100000 in
theorem slots (s : Sea) (x : S29) (layer t u e0 e1 e2 e3 : Int) (hS : SeaV s) (hx : OkB x) (hl0 : 0 ≤ layer) (hl1 : layer < s.layers) : ∀ (q : Nat) (j : Int) (k : Nat) (l : List S29), 0 ≤ j → j + (q : Int) = s.slots → q * 440 + 20 ≤ k → OkB (outV l) → l ++ refL s x layer t u q j ≠ [] → outV (l ++ refL s x layer t u q j) = ⟨⟨e0, e1⟩, ⟨e2, e3⟩⟩ →
  isobathtop_TopCurrents.l0 k layer t u (s.nx * s.ny) (!l.isEmpty) j s.nx s.ny s.cell s.slot s.slots s.layers s.most s.shores s.currents x.f0.f0 x.f0.f1 x.f1.f0 x.f1.f1 e0 e1 e2 e3 (outV l).f0.f0 (outV l).f0.f1 (outV l).f1.f0 (outV l).f1.f1 = some true
 | 0, j, k + 1, l, h0, h, hk, ho, hne, he => by
  rw [refL, List.append_nil] at hne he
  have hn : (!l.isEmpty) = true := by cases l with | nil => exact absurd rfl hne | cons a b => rfl
  rw [isobathtop_TopCurrents.l0, if_neg (by omega), hn, if_pos rfl, he, if_pos (by simp), if_pos (by simp), works (by omega)]
  rfl
 | q + 1, j, k + 1, l, h0, h, hk, ho, hne, he => by
  obtain ⟨k, rfl⟩ : ∃ z, k = z + 1 := ⟨k - 1, by omega⟩
  have n1 := hS.n.nx; have n2 := hS.n.ny; have n5 := hS.n.slots; have n4 := hS.n.slot
  obtain ⟨p0, p1⟩ := mul_in (a := s.nx) (b := s.ny) (m := 12) (n := 12) (by omega) (by omega) (by omega) (by omega)
  obtain ⟨a0, a1⟩ := mul_in (a := j) (b := s.slot) (m := 16) (n := 1048576) (by omega) (by omega) (by omega) (by omega)
  obtain ⟨b0, b1⟩ := mul_in (a := j + 1) (b := s.slot) (m := 17) (n := 1048576) (by omega) (by omega) (by omega) (by omega)
  have ih := fun k l => slots s x layer t u e0 e1 e2 e3 hS hx hl0 hl1 q (j + 1) k l (by omega) (by omega)
  rw [isobathtop_TopCurrents.l0, if_pos (by omega), w64_id (x := j * s.slot) (by omega), w64_id (x := j + 1) (by omega), w64_id (x := (j + 1) * s.slot) (by omega)]
  rw [refL] at hne he
  by_cases h1 : j * s.slot ≥ u
  ·rw [if_pos (Or.inl h1), List.nil_append] at hne he
   rw [if_pos h1, isobathtop_TopCurrents.j1, if_pos rfl, w64_id (x := j + 1) (by omega)]
   exact ih k l (by omega) ho hne he
  ·rw [if_neg h1]
   by_cases h2 : (j + 1) * s.slot ≤ t
   ·rw [if_pos (Or.inr h2), List.nil_append] at hne he
    rw [decide_eq_true h2, isobathtop_TopCurrents.j1, if_pos rfl, w64_id (x := j + 1) (by omega)]
    exact ih k l (by omega) ho hne he
   ·rw [if_neg (by omega), ← List.append_assoc] at hne he
    rw [decide_eq_false h2, isobathtop_TopCurrents.j1, if_neg (by decide)]
    obtain ⟨k2, e⟩ : ∃ z, k = 3 * (s.nx * s.ny).toNat + 1 + (z + 4) := ⟨k - 3 * (s.nx * s.ny).toNat - 5, by omega⟩
    have hc := cells s x layer t u j e0 e1 e2 e3 hS hx hl0 hl1 h0 (by omega) (s.nx * s.ny).toNat 0 k2 l (Int.le_refl _) (by omega) ho
    rw [e, hc.2]
    exact ih (k2 + 4) _ (by omega) hc.1 hne he
theorem refL_ne {s : Sea} {x : S29} {layer t u : Int} (hN : SeaN s) (hx0 : x.f0.f0 ≤ x.f0.f1) (hx1 : x.f1.f0 ≤ x.f1.f1) (hc : containsI s x = true) (ht0 : 0 ≤ t) (htu : t < u) (hu : u ≤ s.slots * s.slot) : refL s x layer t u s.slots.toNat 0 ≠ [] := by
 have pd : 0 < s.slot := by have := hN.slot; omega
 have pc : 0 < s.cell := by have := hN.cell; omega
 have pnn : 0 ≤ s.nx * s.ny := Int.mul_nonneg (by have := hN.nx; omega) (by have := hN.ny; omega)
 obtain ⟨k, hk⟩ := touch_some (s := s) pc hx0 hx1
 obtain ⟨h0, h1⟩ := (touch_iff hN hx0 hx1 hc).1 hk
 have t0 : 0 ≤ t / s.slot := Int.ediv_nonneg ht0 (by omega)
 have dm := Int.emod_add_mul_ediv t s.slot
 have m0 := Int.emod_nonneg t (show s.slot ≠ 0 by omega)
 have m1 := Int.emod_lt_of_pos t pd
 have e1 : t / s.slot * s.slot ≤ t := by rw [Int.mul_comm]; omega
 have e2 : t < (t / s.slot + 1) * s.slot := by rw [Int.add_mul, Int.one_mul, Int.mul_comm (t / s.slot)]; omega
 have e3 : t / s.slot < s.slots := (Int.ediv_lt_iff_lt_mul pd).2 (by omega)
 exact List.ne_nil_of_mem ((mem_refL _ _).2 ⟨t / s.slot, by omega, ⟨by omega, e2⟩, (mem_refC _ _).2 ⟨k, by omega, h1, rfl⟩⟩)
end Currents
open Currents in
theorem TopCurrents : ∀ (x0 : S25) (x1 : S29) (x2 : Int) (x3 : Int) (x4 : Int), W25 x0 → W29 x1 → (Lit.int .i64 x2).wf = true → (Lit.int .i64 x3).wf = true → (Lit.int .i64 x4).wf = true → ∃ k, isobathtop_TopCurrents.f k (x0.f0) (x0.f1) (x0.f2) (x0.f3) (x0.f4) (x0.f5) (x0.f6) (x0.f7) (x0.f8) (x1.f0.f0) (x1.f0.f1) (x1.f1.f0) (x1.f1.f1) x2 x3 x4 = some true := by
 intro x0 x layer t u g0 g1 g2 g3 g4
 let s : Sea := ⟨x0.f0, x0.f1, x0.f2, x0.f3, x0.f4, x0.f5, x0.f6, x0.f7, x0.f8⟩
 refine ⟨8000, ?_⟩
 unfold isobathtop_TopCurrents.f isobathtop_large.f
 by_cases h1 : (s.shores.length : Int) > 200
 ·rw [if_pos h1, Option.bind_some, if_pos rfl, works (by omega)]; rfl
 rw [if_neg h1, Option.bind_some]
 by_cases h2 : (s.currents.length : Int) > 3000
 ·rw [decide_eq_true h2, if_pos rfl, works (by omega)]; rfl
 rw [decide_eq_false h2, if_neg (by decide)]
 unfold glider_At.f
 rw [Option.bind_some]
 refine Eq.trans (congrArg (fun o => Option.bind o _) (ref_At s x layer t u 8000 (by omega) (by omega) (by omega))) ?_
 rw [Option.bind_some]
 refine Eq.trans (if_pos rfl) ?_
 by_cases h3 : AtE s x layer t u = 0
 ·refine Eq.trans (if_pos h3) ?_
  have h3' := h3
  unfold AtE at h3'
  by_cases q1 : seaE s ≠ 0
  ·rw [if_pos q1] at h3'; exact absurd h3' q1
  rw [if_neg q1] at h3'
  by_cases q2 : boxE x ≠ 0
  ·rw [if_pos q2] at h3'; cases h3'
  rw [if_neg q2] at h3'
  by_cases q3 : layer < 0 ∨ layer ≥ s.layers
  ·rw [if_pos q3] at h3'; cases h3'
  rw [if_neg q3] at h3'
  by_cases q4 : t < 0 ∨ t ≥ u
  ·rw [if_pos q4] at h3'; cases h3'
  rw [if_neg q4] at h3'
  by_cases q5 : (containsI s x && knownI s t u) = true
  ·obtain ⟨q6, q7⟩ := Bool.and_eq_true_iff.1 q5
   unfold knownI at q7
   simp only [Bool.and_eq_true, decide_eq_true_eq] at q7
   have hS : SeaV s := seaB_ok (by have q := Classical.not_not.1 q1; unfold seaE at q; cases hb : seaB s with | true => rfl | false => rw [hb] at q; cases q)
   have hb := boxB_ok (Classical.not_not.1 q2)
   have hx : OkB x := by
    have q := Classical.not_not.1 q2
    unfold boxE at q
    cases hb : boxB x with
    | false => rw [hb] at q; cases q
    | true => unfold boxB at hb; simp only [Bool.and_eq_true] at hb; exact hb.1
   have n1 := hS.n.nx; have n2 := hS.n.ny; have n5 := hS.n.slots
   obtain ⟨p0, p1⟩ := mul_in (a := s.nx) (b := s.ny) (m := 12) (n := 12) (by omega) (by omega) (by omega) (by omega)
   have hw : wrap64 (x0.f0 * x0.f1) = s.nx * s.ny := w64_id (x := s.nx * s.ny) (by omega)
   rw [hw]
   have hv : AtV s x layer t u = atI s x layer t u := by unfold AtV; rw [if_pos h3]
   have hr := ref_boxes hS.n hb.2.1 hb.2.2 q6 (layer := layer) q7.1 (by omega) q7.2
   exact slots s x layer t u _ _ _ _ hS hx (by omega) (by omega) s.slots.toNat 0 8000 [] (Int.le_refl _) (by omega) (by omega) (by unfold OkB; exact ⟨by decide, by decide⟩) (by rw [List.nil_append]; exact refL_ne hS.n hb.2.1 hb.2.2 q6 q7.1 (by omega) q7.2) (by rw [List.nil_append, hr, ← hv])
  ·rw [if_neg q5] at h3'; cases h3'
 ·refine Eq.trans (if_neg h3) ?_
  have hz : AtV s x layer t u = z29 := by unfold AtV; rw [if_neg h3]
  rw [if_pos (by show ((_ == _) && _ && _) = true; rw [hz]; rfl), works (by omega)]
  rfl
end Go.Proofs.Ythglkoddmpicdaa.Pure
end
