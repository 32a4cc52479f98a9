/- Part 22 of the proof of TopSearched: what the functions compute. No condition. -/
import Derived.Test.YthglkoddmpicdaaTsTopSearched3
import Derived.Test.YthglkoddmpicdaaTsTopSearched20
import Derived.Test.YthglkoddmpicdaaTsTopSearched21
import Derived.Test.YthglkoddmpicdaaTsTopSearched16
import Derived.Test.YthglkoddmpicdaaTsTopSearched17
set_option linter.unusedVariables false
set_option linter.unusedSimpArgs false
section
/- The cells that a plan has visited are touched by the hull reach; a pickup that no hull reach touches is never met: the pure statement about what the program computes. -/
namespace Go.Proofs.Ythglkoddmpicdaa.Pure
open Go.RowKit Go.Proofs.YthglkoddmpicdaaW.PrintWords Go.Proofs.YthglkoddmpicdaaW.PrintLast Go.Proofs.Ythglkoddmpicdaa.Pr Go.Proofs.Ythglkoddmpicdaa.Good Go.Proofs.Ythglkoddmpicdaa.Gl
set_option linter.unusedVariables false
set_option linter.unusedSectionVars false
namespace Searched
theorem works {k : Nat} (h : 12 ≤ k) : isobathtop_works03.f k = some true := at_rounds isobathtop_works03.mono h (by first | kernel_rfl)
theorem inI_up {r b a : S27} (h : inI r a ≠ 0) (hb : okS b.f0 b.f1 = true) (h0 : b.f0 ≤ r.f0) (h1 : r.f1 ≤ b.f1) : inI b a ≠ 0 := by
 unfold inI at h ⊢
 by_cases ho : (okS r.f0 r.f1 && okS a.f0 a.f1) = true
 case neg => rw [if_neg ho] at h; exact absurd rfl h
 rw [if_pos ho] at h
 obtain ⟨o1, o2⟩ := Bool.and_eq_true_iff.1 ho
 by_cases hm : max r.f0 a.f0 ≤ min r.f1 a.f1
 case neg => rw [if_neg hm] at h; exact absurd rfl h
 rw [hb, o2, if_pos (show (true && true) = true from rfl), if_pos (by omega)]
 split <;> decide
theorem Sm_ok {b : S29} (h : Sm b) : okS b.f0.f0 b.f0.f1 = true ∧ okS b.f1.f0 b.f1.f1 = true := ⟨okS_of h.1.2.1 h.1.1 h.1.2.2, okS_of h.2.2.1 h.2.1 h.2.2.2⟩
theorem parts_up {r b a : S29} (h : insI r a ≠ 0) (hb : Sm b) (hs : SubB r b) : inI b.f0 a.f0 ≠ 0 ∧ inI b.f1 a.f1 ≠ 0 := by
 obtain ⟨s0, s1, s2, s3⟩ := hs
 obtain ⟨o0, o1⟩ := Sm_ok hb
 unfold insI at h
 have t0 := inI_two r.f0 a.f0
 have t1 := inI_two r.f1 a.f1
 exact ⟨inI_up (show inI r.f0 a.f0 ≠ 0 by omega) o0 s0 s1, inI_up (show inI r.f1 a.f1 ≠ 0 by omega) o1 s2 s3⟩
theorem insI_up {r b a : S29} (h : insI r a ≠ 0) (hb : Sm b) (hs : SubB r b) : insI b a ≠ 0 := by
 obtain ⟨p0, p1⟩ := parts_up h hb hs
 have t0 := inI_two b.f0 a.f0
 have t1 := inI_two b.f1 a.f1
 unfold insI
 omega
theorem insI_two (x y : S29) : 0 ≤ insI x y ∧ insI x y ≤ 2 := by
 have h1 := inI_two x.f0 y.f0
 have h2 := inI_two x.f1 y.f1
 unfold insI
 omega
theorem no_fetch (dive : Int) (p : S44) : ∀ (l Bs : List S29) (t : Int), l.length ≤ Bs.length → (∀ b ∈ Bs, Sm b) → (∀ (i : Nat) (r b : S29), l[i]? = some r → Bs[i]? = some b → SubB r b) → fetA dive p Bs t = false → fetI dive p l t 0 = 0
 | [], _, t, _, _, _, _ => by unfold fetI; rfl
 | r :: l, [], t, hl, _, _, _ => by simp at hl
 | r :: l, b :: Bs, t, hl, hs, hsub, hf => by
  unfold fetA at hf
  obtain ⟨hf1, hf2⟩ := Bool.or_eq_false_iff.1 hf
  unfold fetI
  have hsb := hsub 0 r b rfl rfl
  have ih := no_fetch dive p l Bs (t + dive) (by simpa using hl) (fun q hq => hs q (List.mem_cons_of_mem _ hq)) (fun i r' b' h1 h3 => hsub (i + 1) r' b' h1 h3) hf2
  by_cases hb : p.f1 ≤ t + dive ∧ t + dive ≤ p.f2
  ·rw [if_pos hb]
   rw [btwB_iff.2 hb, Bool.true_and, decide_eq_false_iff_not, Decidable.not_not] at hf1
   have hz : insI r p.f0 = 0 := Decidable.byContradiction fun h3 => insI_up h3 (hs b List.mem_cons_self) hsb hf1
   rw [hz]
   exact ih
  ·rw [if_neg hb]; exact ih
theorem ran_err (s : Sea) (v : Veh) : ∀ (l : List S76) (x : S29) (t n : Int) (out : List S29), (ranI s v l x t n out).2.2 ≠ 0 → (ranI s v l x t n out).1 = []
 | [], x, t, n, out, h => by unfold ranI at h; exact absurd rfl h
 | c :: l, x, t, n, out, h => by
  unfold ranI at h ⊢
  split at h
  ·rename_i hn; rw [if_pos hn]
  ·rename_i hn
   rw [if_neg hn]
   exact ran_err s v l _ _ _ _ h
theorem ran_sm {s : Sea} {v : Veh} (hS : SeaV s) (hV : VehN v) : ∀ (l : List S76) (x : S29) (t n : Int) (out : List S29), BoxOK x → (∀ r ∈ out, Sm r) → ∀ r ∈ (ranI s v l x t n out).1, Sm r
 | [], x, t, n, out, _, ho => by unfold ranI; exact ho
 | c :: l, x, t, n, out, hx, ho => by
  unfold ranI
  by_cases hD : diveE s v x t = 0
  case neg => rw [if_pos hD]; intro r hr; cases hr
  rw [if_neg (fun q => q hD)]
  have hbx := dive_box (hd := c.f0) (layer := c.f1) hS hV hx hD
  refine ran_sm hS hV l _ _ _ _ hbx fun r hr => ?_
  rcases List.mem_append.1 hr with hr | hr
  ·exact ho r hr
  ·rw [List.mem_singleton.1 hr]
   have hre : reachE s v x t = 0 := by
    unfold diveE at hD
    exact (ite_ne_zero hD).1
   unfold diveV
   rw [if_pos hD]
   exact ends_small hS hV hx hre
theorem hull_five (s : Sea) (v : Veh) : ∀ (n : Nat) (y : S29) (t : Int) (out : List S29), (hullsI s v n y t out).2 = 0 ∨ (hullsI s v n y t out).2 = 5
 | 0, y, t, out => by unfold hullsI; exact .inl rfl
 | n + 1, y, t, out => by
  unfold hullsI
  rcases reach_five s v y t with h | h
  ·rw [if_neg (fun q => q h)]
   exact hull_five s v n _ _ _
  ·rw [if_pos (by rw [h]; decide)]
   exact .inr h
theorem boxes_zero {l : List S29} (h : ∀ x ∈ l, Sm x) (hl : l.length ≤ 64) : boxesE l = 0 := by
 unfold boxesE
 rw [if_neg (by omega), if_neg]
 rw [Bool.not_eq_true, List.any_eq_false]
 intro x hx
 rw [(h x hx).boxB]
 decide
theorem visR_some : ∀ (l : List S29) (x : S29) (acc : Int), visR l x acc ≠ 0 → acc ≠ 0 ∨ ∃ i, ∃ h : i < l.length, insI l[i] x ≠ 0
 | [], x, acc, h => .inl h
 | b :: l, x, acc, h => by
  have e : visR (b :: l) x acc = visR l x (max acc (insI b x)) := rfl
  rw [e] at h
  rcases visR_some l x _ h with h1 | ⟨i, hi, h1⟩
  ·by_cases h2 : insI b x = 0
   ·have := insI_two b x
    left; omega
   ·exact .inr ⟨0, by simp, h2⟩
  ·exact .inr ⟨i + 1, by simpa using hi, h1⟩
/-- Does a hull touch a cell? -/
def touchH (x b : S29) : Bool := (inI b.f0 x.f0 != 0) && (inI b.f1 x.f1 != 0)
/-- What Fetched returns. -/
def FetX (v : Veh) (t : Int) (l : List S29) (p : S44) : Int × Int := if vehE v = 0 then (if btwB t 0 1073741824 = true then (if boxesE l = 0 then (if pickB p = true then (fetI v.dive p l t 0, 0) else (0, 2)) else (0, boxesE l)) else (0, 3)) else (0, vehE v)
theorem fetched_ok (v : Veh) (t : Int) (l : List S29) (p : S44) (K : Nat) (hk : 100 ≤ K) : glider_Fetched.f K v.speed v.dive v.use.f0 v.use.f1 v.drift.f0 v.drift.f1 v.reserve t l p.f0.f0.f0 p.f0.f0.f1 p.f0.f1.f0 p.f0.f1.f1 p.f1 p.f2 = some (FetX v t l p) := by
 have ev := at_rounds (glider_CheckVehicle.mono _ _ _ _ _ _ _) (show 4 ≤ K by omega) (veh_some v)
 unfold glider_Fetched.f FetX
 rw [ev, Option.bind_some]
 by_cases h1 : vehE v = 0
 ·rw [if_pos h1, if_pos h1, btw_some, Option.bind_some]
  by_cases h2 : btwB t 0 1073741824 = true
  ·have hb : glider_checkBoxes.f l = some (boxesE l) := rfl
   rw [if_pos h2, if_pos h2, hb, Option.bind_some]
   by_cases h3 : boxesE l = 0
   ·have ep := at_rounds (glider_validPickup.mono _ _ _ _ _ _) (show 4 ≤ K by omega) (pick_some p)
    rw [if_pos h3, if_pos h3, ep, Option.bind_some]
    by_cases h4 : pickB p = true
    ·have hv : vehB v = true := by
      unfold vehE at h1
      cases hb : vehB v with
      | true => rfl
      | false => rw [hb] at h1; cases h1
     have hl := boxes_len h3
     rw [if_pos h4, if_pos h4, fet_some v hv p l hl t (btwB_iff.1 h2) K (by omega)]
     rfl
    ·rw [if_neg h4, if_neg h4]
   ·rw [if_neg h3, if_neg h3]
  ·rw [if_neg h2, if_neg h2]
 ·rw [if_neg h1, if_neg h1]
section
variable (s : Sea) (v : Veh) (x : S29) (t : Int) (p : S44) (run hs : List S29) (hS : SeaN s) (hn : hs.length ≤ 5) (hsm : ∀ b ∈ hs, Sm b)
include hS hn hsm
/-- The hulls, one after another. -/
theorem hulls_go (vl : List Int) (c : Nat) (hc : c < 144) (hcv : c < vl.length) (hz : rd vl (c : Int) = 0 ∨ hs.any (touchH (cellV s (c : Int))) = true) (F : Nat)
  (hG : ∀ K, F ≤ K → isobathtop_TopSearched.l0 K t run (hs.length : Int) hs vl ((c + 1 : Nat) : Int) s.nx s.ny s.cell s.slot s.slots s.layers s.most s.shores s.currents v.speed v.dive v.use.f0 v.use.f1 v.drift.f0 v.drift.f1 v.reserve x.f0.f0 x.f0.f1 x.f1.f0 x.f1.f1 p.f0.f0.f0 p.f0.f0.f1 p.f0.f1.f0 p.f0.f1.f1 p.f1 p.f2 = some true) : ∀ (m i K : Nat) (b : Bool), i + m = hs.length → F + m + 5 ≤ K → (b || (hs.drop i).any (touchH (cellV s (c : Int)))) = hs.any (touchH (cellV s (c : Int))) →
  isobathtop_TopSearched.l1 K t run (hs.length : Int) hs vl (c : Int) (cellV s (c : Int)).f0.f0 (cellV s (c : Int)).f1.f0 b (i : Int) s.nx s.ny s.cell s.slot s.slots s.layers s.most s.shores s.currents v.speed v.dive v.use.f0 v.use.f1 v.drift.f0 v.drift.f1 v.reserve x.f0.f0 x.f0.f1 x.f1.f0 x.f1.f1 p.f0.f0.f0 p.f0.f0.f1 p.f0.f1.f0 p.f0.f1.f1 p.f1 p.f2 = some true
 | 0, i, K, b, h, hk, hb => by
  obtain ⟨K, rfl⟩ : ∃ z, K = z + 1 := ⟨K - 1, by omega⟩
  rw [List.drop_eq_nil_of_le (by omega), List.any_nil, Bool.or_false] at hb
  rw [isobathtop_TopSearched.l1, if_neg (by omega), if_pos (by omega), if_pos (by omega), w64_id (x := (c : Int) + 1) (by omega), show (c : Int) + 1 = ((c + 1 : Nat) : Int) from by omega]
  by_cases h0 : rd vl (c : Int) = 0
  ·rw [if_pos h0]; exact hG K (by omega)
  ·rw [if_neg h0, if_pos (by rw [hb]; exact hz.resolve_left h0)]; exact hG K (by omega)
 | m + 1, i, K, b, h, hk, hb => by
  obtain ⟨K, rfl⟩ : ∃ z, K = z + 1 := ⟨K - 1, by omega⟩
  have hi : i < hs.length := by omega
  have hcl := hS.cell
  obtain ⟨c1, c2, c3, c4, c5, c6, c7, c8, _, _⟩ := cell_num s hS hc
  have hX : (cellV s (c : Int)).f0.f1 = (cellV s (c : Int)).f0.f0 + s.cell := rfl
  have hY : (cellV s (c : Int)).f1.f1 = (cellV s (c : Int)).f1.f0 + s.cell := rfl
  have hx0 : (cellV s (c : Int)).f0.f0 = (c : Int) % s.nx * s.cell := rfl
  have hy0 : (cellV s (c : Int)).f1.f0 = (c : Int) / s.nx * s.cell := rfl
  have k1 : okS (cellV s (c : Int)).f0.f0 (cellV s (c : Int)).f0.f1 = true := okS_iff.2 (by rw [hX, hx0]; omega)
  have k2 : okS (cellV s (c : Int)).f1.f0 (cellV s (c : Int)).f1.f1 = true := okS_iff.2 (by rw [hY, hy0]; omega)
  have w1 : wrap64 ((cellV s (c : Int)).f0.f0 + s.cell) = (cellV s (c : Int)).f0.f1 := w64_id (x := (cellV s (c : Int)).f0.f0 + s.cell) (by rw [hx0]; omega)
  have w2 : wrap64 ((cellV s (c : Int)).f1.f0 + s.cell) = (cellV s (c : Int)).f1.f1 := w64_id (x := (cellV s (c : Int)).f1.f0 + s.cell) (by rw [hy0]; omega)
  generalize hcell : cellV s (c : Int) = cl at *
  have hsi := hsm _ (List.getElem_mem hi)
  obtain ⟨o0, o1⟩ := Sm_ok hsi
  have e0 : inE hs[i].f0 cl.f0 = 0 := by unfold inE; rw [o0, k1]; rfl
  have e1 : inE hs[i].f1 cl.f1 = 0 := by unfold inE; rw [o1, k2]; rfl
  have g0 : bound_In.f K hs[i].f0.f0 hs[i].f0.f1 cl.f0.f0 cl.f0.f1 = some (inI hs[i].f0 cl.f0, inE hs[i].f0 cl.f0) := at_rounds (bound_In.mono _ _ _ _) (show 3 ≤ K by omega) (in_some hs[i].f0 cl.f0)
  have g1 : bound_In.f K hs[i].f1.f0 hs[i].f1.f1 cl.f1.f0 cl.f1.f1 = some (inI hs[i].f1 cl.f1, inE hs[i].f1 cl.f1) := at_rounds (bound_In.mono _ _ _ _) (show 3 ≤ K by omega) (in_some hs[i].f1 cl.f1)
  have ih := fun b' hb' => hulls_go vl c hc hcv (by rw [hcell]; exact hz) F hG m (i + 1) K b' (by omega) (by omega) hb'
  rw [hcell] at ih
  rw [List.drop_eq_getElem_cons hi, List.any_cons, ← Bool.or_assoc] at hb
  rw [isobathtop_TopSearched.l1, if_pos (by omega), if_pos (by omega), if_pos (by omega), rd_box hi, w1, w2, g0, g1, Option.bind_some, Option.bind_some]
  dsimp only
  rw [if_pos e0, if_pos e1, w64_id (x := (i : Int) + 1) (by omega), show (i : Int) + 1 = ((i + 1 : Nat) : Int) from by omega]
  cases b with
  | true => rw [if_pos rfl]; exact ih true (by rw [← hb]; rfl)
  | false =>
   rw [if_neg (by decide)]
   by_cases q : inI hs[i].f0 cl.f0 = 0
   ·rw [if_pos q]
    exact ih false (by rw [← hb]; unfold touchH; rw [q]; rfl)
   ·rw [if_neg q]
    refine ih _ (by
     rw [← hb]
     unfold touchH
     rw [show (inI hs[i].f0 cl.f0 != 0) = true from by simpa using q]
     rfl)
/-- The cells, one after another. -/
theorem cells_go (hz : ∀ c : Nat, c < (s.nx * s.ny).toNat → visRs [run] (cellV s (c : Int)) 0 = 0 ∨ hs.any (touchH (cellV s (c : Int))) = true) (F : Nat)
  (hG : ∀ K, F ≤ K → isobathtop_TopSearched.l0 (K + 1) t run (hs.length : Int) hs (visL s [run] 0 (s.nx * s.ny).toNat) ((s.nx * s.ny).toNat : Int) s.nx s.ny s.cell s.slot s.slots s.layers s.most s.shores s.currents v.speed v.dive v.use.f0 v.use.f1 v.drift.f0 v.drift.f1 v.reserve x.f0.f0 x.f0.f1 x.f1.f0 x.f1.f1 p.f0.f0.f0 p.f0.f0.f1 p.f0.f1.f0 p.f0.f1.f1 p.f1 p.f2 = some true) : ∀ (m c K : Nat), c + m = (s.nx * s.ny).toNat → F + 20 * m + 1 ≤ K →
  isobathtop_TopSearched.l0 K t run (hs.length : Int) hs (visL s [run] 0 (s.nx * s.ny).toNat) (c : Int) s.nx s.ny s.cell s.slot s.slots s.layers s.most s.shores s.currents v.speed v.dive v.use.f0 v.use.f1 v.drift.f0 v.drift.f1 v.reserve x.f0.f0 x.f0.f1 x.f1.f0 x.f1.f1 p.f0.f0.f0 p.f0.f0.f1 p.f0.f1.f0 p.f0.f1.f1 p.f1 p.f2 = some true
 | 0, c, K, h, hk => by
  obtain ⟨K, rfl⟩ : ∃ z, K = z + 1 := ⟨K - 1, by omega⟩
  obtain rfl : c = (s.nx * s.ny).toNat := by omega
  exact hG K (by omega)
 | m + 1, c, K, h, hk => by
  obtain ⟨K, rfl⟩ : ∃ z, K = z + 1 := ⟨K - 1, by omega⟩
  have hx := mul_in (a := s.nx) (b := s.ny) (m := 12) (n := 12) (by have := hS.nx; omega) hS.nx.2 (by have := hS.ny; omega) hS.ny.2
  have hl : (visL s [run] 0 (s.nx * s.ny).toNat).length = (s.nx * s.ny).toNat := by unfold visL; simp
  have hr : rd (visL s [run] 0 (s.nx * s.ny).toNat) (c : Int) = visRs [run] (cellV s (c : Int)) 0 := by
   unfold rd visL
   simp [List.getD_eq_getElem?_getD, show c < (s.nx * s.ny).toNat by omega]
  have hn1 := hS.nx
  have hc : c < 144 := by omega
  obtain ⟨h1, h2, h3, h4, h5, h6, h7, h8, e1, e2⟩ := cell_num s hS hc
  rw [isobathtop_TopSearched.l0, if_pos (by omega), if_neg (by omega), e1, e2, w64_id (x := (c : Int) % s.nx * s.cell) (by omega), w64_id (x := (c : Int) / s.nx) (by omega), w64_id (x := (c : Int) / s.nx * s.cell) (by omega)]
  exact hulls_go s v x t p run hs hS hn hsm (visL s [run] 0 (s.nx * s.ny).toNat) c hc (by omega) (by rw [hr]; exact hz c (by omega)) (F + 20 * m + 1) (fun K' hK => cells_go hz F hG m (c + 1) K' (by omega) hK) hs.length 0 K false (by omega) (by omega) (by rw [List.drop_zero, Bool.false_or])
end
end Searched
open Searched in
theorem TopSearched : ∀ (x0 : S25) (x1 : S41) (x2 : S29) (x3 : Int) (x4 : (List S76)) (x5 : S44), W25 x0 → W41 x1 → W29 x2 → (Lit.int .i64 x3).wf = true → ((∀ y ∈ x4, W76 y) ∧ x4.length * Try.prog.bytesOf 76 ≤ reachBytes) → W44 x5 → ∃ k, isobathtop_TopSearched.f k (x0.f0) (x0.f1) (x0.f2) (x0.f3) (x0.f4) (x0.f5) (x0.f6) (x0.f7) (x0.f8) (x1.f0) (x1.f1) (x1.f2.f0) (x1.f2.f1) (x1.f3.f0) (x1.f3.f1) (x1.f4) (x2.f0.f0) (x2.f0.f1) (x2.f1.f0) (x2.f1.f1) x3 x4 (x5.f0.f0.f0) (x5.f0.f0.f1) (x5.f0.f1.f0) (x5.f0.f1.f1) (x5.f1) (x5.f2) = some true := by
 intro x0 x1 x t l p g0 g1 g2 g3 g4 g5
 let s : Sea := ⟨x0.f0, x0.f1, x0.f2, x0.f3, x0.f4, x0.f5, x0.f6, x0.f7, x0.f8⟩
 let v : Veh := ⟨x1.f0, x1.f1, ⟨x1.f2.f0, x1.f2.f1⟩, ⟨x1.f3.f0, x1.f3.f1⟩, x1.f4⟩
 refine ⟨100000 + 4, ?_⟩
 unfold isobathtop_TopSearched.f isobathtop_large.f
 have hw : ∀ b : Bool, b = true → isobathtop_TopSearched.j0 (100000 + 4) t l b s.nx s.ny s.cell s.slot s.slots s.layers s.most s.shores s.currents v.speed v.dive v.use.f0 v.use.f1 v.drift.f0 v.drift.f1 v.reserve x.f0.f0 x.f0.f1 x.f1.f0 x.f1.f1 p.f0.f0.f0 p.f0.f0.f1 p.f0.f1.f0 p.f0.f1.f1 p.f1 p.f2 = some true := by
  intro b hb
  rw [isobathtop_TopSearched.j0, if_pos hb, works (by omega)]; rfl
 by_cases h1 : (s.shores.length : Int) > 200
 ·rw [if_pos h1, Option.bind_some, if_pos rfl]
  exact hw true rfl
 rw [if_neg h1, Option.bind_some]
 by_cases h2 : (s.currents.length : Int) > 3000
 ·rw [decide_eq_true h2, if_pos rfl]
  exact hw true rfl
 rw [decide_eq_false h2, if_neg (by decide)]
 by_cases h3 : (l.length : Int) > 5
 ·rw [if_pos h3]; exact hw true rfl
 rw [if_neg h3]
 by_cases h4 : (l.length : Int) = 0
 ·exact hw _ (beq_iff_eq.2 h4)
 rw [show ((l.length : Int) == 0) = false from beq_eq_false_iff_ne.2 h4, isobathtop_TopSearched.j0, if_neg (by decide)]
 have hrun : glider_Run.f s.nx s.ny s.cell s.slot s.slots s.layers s.most s.shores s.currents v.speed v.dive v.use.f0 v.use.f1 v.drift.f0 v.drift.f1 v.reserve x.f0.f0 x.f0.f1 x.f1.f0 x.f1.f1 t l = some (RunX s v x t l) := rfl
 have hrea : glider_Reach.f s.nx s.ny s.cell s.slot s.slots s.layers s.most s.shores s.currents v.speed v.dive v.use.f0 v.use.f1 v.drift.f0 v.drift.f1 v.reserve x.f0.f0 x.f0.f1 x.f1.f0 x.f1.f1 t (l.length : Int) = some (ReachX s v x t (l.length : Int)) := rfl
 refine Eq.trans (congrArg (fun o => Option.bind o _) hrun) ?_
 rw [Option.bind_some]
 by_cases hR : (RunX s v x t l).2.2 = 0
 case neg =>
  have he : (RunX s v x t l).1 = [] := by
   unfold RunX at hR ⊢
   by_cases q1 : beginE s v x t = 0
   case neg => rw [if_pos q1]
   rw [if_neg (fun q => q q1)] at hR ⊢
   by_cases q2 : crsE l s.layers = 0
   case neg => rw [if_pos q2]
   rw [if_neg (fun q => q q2)] at hR ⊢
   exact ran_err s v l x t 0 [] hR
  rw [if_neg hR, he, if_pos (show ((([] : List S29).length : Int) = 0) from rfl), works (by omega)]
  rfl
 rw [if_pos hR]
 have hR' := hR
 unfold RunX at hR'
 obtain ⟨hbe, q1⟩ : beginE s v x t = 0 ∧ RunX s v x t l = (if crsE l s.layers ≠ 0 then ([], 0, crsE l s.layers) else ranI s v l x t 0 []) := by
  by_cases q1 : beginE s v x t = 0
  case neg => rw [if_pos q1] at hR'; exact absurd hR' q1
  refine ⟨q1, ?_⟩
  unfold RunX
  rw [if_neg (fun q => q q1)]
 obtain ⟨hcr, hRX⟩ : crsE l s.layers = 0 ∧ RunX s v x t l = ranI s v l x t 0 [] := by
  rw [q1] at hR
  by_cases q2 : crsE l s.layers = 0
  case neg => rw [if_pos q2] at hR; exact absurd hR q2
  rw [if_neg (fun q => q q2)] at q1
  exact ⟨q2, q1⟩
 rw [hRX] at hR ⊢
 have hb0 : tripE s v = 0 ∧ placeE x t = 0 := by unfold beginE at hbe; exact ite_ne_zero hbe
 obtain ⟨hSV, hVN⟩ := tripE_ok hb0.1
 obtain ⟨hbx, ht0, ht1⟩ := place_ok hb0.2
 have hse : seaE s = 0 := by have q := hb0.1; unfold tripE at q; exact (ite_ne_zero q).1
 have hve : vehE v = 0 := by have q := hb0.1; unfold tripE at q; exact (ite_ne_zero q).2
 obtain ⟨hn1, hn2, _⟩ := ran_out s v l x t 0 [] hR
 rw [Int.zero_add] at hn1
 rw [List.length_nil, Nat.zero_add] at hn2
 have hsm := ran_sm hSV hVN l x t 0 [] hbx (by simp)
 refine Eq.trans (congrArg (fun o => Option.bind o _) hrea) ?_
 rw [Option.bind_some]
 have hRe : ReachX s v x t (l.length : Int) = hullsI s v l.length x t [] := by
  unfold ReachX
  rw [if_neg (fun q => q hbe), if_neg (by omega), Int.toNat_natCast]
 rw [hRe]
 rcases hull_five s v l.length x t [] with h5 | h5
 case inr =>
  rw [if_neg (by rw [h5]; decide), isobathtop_TopSearched.j1, if_pos rfl, if_pos h5, works (by omega)]
  rfl
 obtain ⟨Bs, hB1, hB2, hB3, hB4⟩ := hull_chain hSV hVN l.length x t [] hbx h5
 rw [List.nil_append] at hB1
 obtain ⟨_, hall⟩ := crsE_ok hcr
 have hch := ran_chain hSV hVN l Bs x x t 0 [] hall hbx (SubB.rfl' _) hB3 hR
 simp only [List.length_nil, Nat.zero_add] at hch
 rw [if_pos h5, if_pos hn1, hn1, if_pos (by omega), hB1, show ((Bs.length : Int) != (l.length : Int)) = false from by rw [hB2]; simp, isobathtop_TopSearched.j1, if_neg (by decide)]
 generalize hrn : (ranI s v l x t 0 []).1 = run at *
 have hvis : visited_one.f (100000 + 2) s.nx s.ny s.cell s.slot s.slots s.layers s.most s.shores s.currents run = some (VisX s [run]) := vis_some s [run] (100000 + 2) (by omega)
 refine Eq.trans (congrArg (fun o => Option.bind o _) hvis) ?_
 rw [Option.bind_some]
 have hbr := boxes_zero hsm (by omega)
 have hx := mul_in (a := s.nx) (b := s.ny) (m := 12) (n := 12) (by have := hSV.n.nx; omega) hSV.n.nx.2 (by have := hSV.n.ny; omega) hSV.n.ny.2
 have hVX : VisX s [run] = (visL s [run] 0 (s.nx * s.ny).toNat, 0) := by
  have hfe : firstE [run] = 0 := by
   have e : firstE [run] = if boxesE run = 0 then firstE [] else boxesE run := rfl
   rw [e, if_pos hbr]
   rfl
  have hru : runsE [run] = 0 := by
   unfold runsE
   rw [if_neg (by simp), if_neg (by simp; omega)]
   exact hfe
  unfold VisX
  rw [if_pos hse, if_pos hru]
 have hl : (visL s [run] 0 (s.nx * s.ny).toNat).length = (s.nx * s.ny).toNat := by unfold visL; simp
 have hw1 : wrap64 (x0.f0 * x0.f1) = s.nx * s.ny := w64_id (x := s.nx * s.ny) (by omega)
 rw [hVX]
 dsimp only
 rw [if_pos rfl, hw1, hl, show (((s.nx * s.ny).toNat : Int) != s.nx * s.ny) = false from by simp; omega, isobathtop_TopSearched.j2, if_neg (by decide), ← hB2]
 refine cells_go s v x t p run Bs hSV.n (by omega) hB4 (fun c hc => ?_) 1000 (fun K hK => ?_) (s.nx * s.ny).toNat 0 100001 (by omega) (by omega)
 ·by_cases hz : visRs [run] (cellV s (c : Int)) 0 = 0
  ·exact .inl hz
  ·right
   have e : visRs [run] (cellV s (c : Int)) 0 = visR run (cellV s (c : Int)) 0 := rfl
   rw [e] at hz
   rcases visR_some run _ 0 hz with h | ⟨i, hi, hne⟩
   ·exact absurd rfl h
   ·have hiB : i < Bs.length := by omega
    have hsub := hch i run[i] Bs[i] (List.getElem?_eq_getElem hi) (List.getElem?_eq_getElem hiB)
    obtain ⟨p0, p1⟩ := parts_up hne (hB4 _ (List.getElem_mem hiB)) hsub
    refine List.any_eq_true.2 ⟨Bs[i], List.getElem_mem hiB, ?_⟩
    unfold touchH
    rw [show (inI Bs[i].f0 (cellV s (c : Int)).f0 != 0) = true from by simpa using p0, show (inI Bs[i].f1 (cellV s (c : Int)).f1 != 0) = true from by simpa using p1]
    rfl
 ·have hnev : glider_Never.f s.nx s.ny s.cell s.slot s.slots s.layers s.most s.shores s.currents v.speed v.dive v.use.f0 v.use.f1 v.drift.f0 v.drift.f1 v.reserve x.f0.f0 x.f0.f1 x.f1.f0 x.f1.f1 t p.f0.f0.f0 p.f0.f0.f1 p.f0.f1.f0 p.f0.f1.f1 p.f1 p.f2 (Bs.length : Int) = some (NeverX s v x t p (Bs.length : Int)) := rfl
  rw [isobathtop_TopSearched.l0, hl, if_neg (by omega), hnev, Option.bind_some]
  by_cases hN : (NeverX s v x t p (Bs.length : Int)).2 = 0
  case neg => rw [if_neg hN, works (by omega)]; rfl
  rw [if_pos hN, fetched_ok v t run p K (by omega), Option.bind_some]
  unfold NeverX at hN
  rw [if_neg (fun q => q hbe)] at hN
  by_cases hpk : pickB p = false
  ·rw [if_pos hpk] at hN; cases hN
  rw [if_neg hpk, if_neg (by omega), Int.toNat_natCast, hB2, if_neg (fun q => q h5)] at hN
  by_cases hf : fetA v.dive p (hullsI s v l.length x t []).1 t = true
  ·rw [if_pos hf] at hN; cases hN
  rw [hB1] at hf
  have hfe := no_fetch v.dive p run Bs t (by omega) hB4 hch (by simpa using hf)
  have hFX : FetX v t run p = (0, 0) := by
   unfold FetX
   rw [if_pos hve, if_pos (btwB_iff.2 ⟨ht0, ht1⟩), if_pos hbr, if_pos (by simpa using hpk), hfe]
  rw [hFX]
  dsimp only
  rw [if_pos rfl, if_pos rfl, works (by omega)]
  rfl
end Go.Proofs.Ythglkoddmpicdaa.Pure
end
