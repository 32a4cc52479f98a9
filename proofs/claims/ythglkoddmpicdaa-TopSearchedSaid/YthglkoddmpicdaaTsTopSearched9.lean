/- Part 9 of the proof of TopSearched: what the functions compute. No condition. -/
import Derived.Test.YthglkoddmpicdaaTsTopSearched3
import Derived.Test.YthglkoddmpicdaaTsTopSearched8
import Derived.Test.YthglkoddmpicdaaTsTopSearched6
set_option linter.unusedVariables false
set_option linter.unusedSimpArgs false
section
/- The current at a box is bounded. -/
namespace Go.Proofs.Ythglkoddmpicdaa.Gl
open Go.RowKit Go.Shelf Go.Proofs.YthglkoddmpicdaaW.PrintWords Go.Proofs.YthglkoddmpicdaaW.PrintLast Go.Proofs.YthglkoddmpicdaaW.PrintMore Go.Proofs.Ythglkoddmpicdaa.Pr Go.Proofs.YthglkoddmpicdaaW.Round
set_option linter.unusedVariables false
set_option linter.unusedSimpArgs false
attribute [local go_sem] max2_int min2_int max_two min_two max_four
/-- The ends of a current are not too large. -/
def BB (y : S29) : Prop := (-5000 ≤ y.f0.f0 ∧ y.f0.f0 ≤ 5000) ∧ (-5000 ≤ y.f0.f1 ∧ y.f0.f1 ≤ 5000) ∧ (-5000 ≤ y.f1.f0 ∧ y.f1.f0 ≤ 5000) ∧ (-5000 ≤ y.f1.f1 ∧ y.f1.f1 ≤ 5000) ∧ y.f0.f0 ≤ y.f0.f1 ∧ y.f1.f0 ≤ y.f1.f1
theorem hull_bb : ∀ (l : List S29) (o : Option S29), (∀ z, o = some z → BB z) → (∀ y ∈ l, BB y) → ∀ z, l.foldl hullO o = some z → BB z
 | [], o, h, _ => h
 | y :: l, o, h, hl => by
  refine hull_bb l _ (fun z hz => ?_) (fun q hq => hl q (List.mem_cons_of_mem _ hq))
  have hy := hl y List.mem_cons_self
  unfold hullO at hz
  cases o with
  | none => cases hz; exact hy
  | some q =>
   cases hz
   have hq := h q rfl
   unfold BB hullB at *
   dsimp only
   omega
/-- All currents are bounded. -/
def CurB (s : Sea) : Prop := ∀ c ∈ s.currents, (-5000 ≤ c.f0.f0 ∧ c.f0.f0 ≤ 5000) ∧ (-5000 ≤ c.f0.f1 ∧ c.f0.f1 ≤ 5000) ∧ (-5000 ≤ c.f1.f0 ∧ c.f1.f0 ≤ 5000) ∧ (-5000 ≤ c.f1.f1 ∧ c.f1.f1 ≤ 5000) ∧ c.f0.f0 ≤ c.f0.f1 ∧ c.f1.f0 ≤ c.f1.f1
theorem at_in {s : Sea} (hc : CurB s) (x : S29) (layer t u : Int) : BB (atI s x layer t u) := by
 unfold atI
 have hz : BB z29 := by unfold BB z29 z27; decide
 cases h : hullL (boxesL s x layer (t / s.slot) ((u - 1) / s.slot + 1 - t / s.slot).toNat) with
 | none => exact hz
 | some z =>
  refine hull_bb _ none (fun z h => by cases h) (fun y hy => ?_) z h
  obtain ⟨r, _, hy⟩ := List.mem_flatMap.1 hy
  obtain ⟨c, _, rfl⟩ := List.mem_map.1 hy
  unfold curB
  generalize ((t / s.slot + (r : Int)) * s.layers + layer) * (s.nx * s.ny) + c = i
  have : rd_T33 s.currents i ∈ s.currents ∨ rd_T33 s.currents i = z33 := by
   unfold rd_T33
   rw [List.getD_eq_getElem?_getD]
   cases h2 : s.currents[i.toNat]? with
   | none => exact .inr rfl
   | some q => exact .inl (List.mem_of_getElem? h2)
  rcases this with h2 | h2
  ·exact hc _ h2
  ·rw [h2]
   unfold BB z33 z27
   decide
end Go.Proofs.Ythglkoddmpicdaa.Gl
end
section
/- The reach of a dive. -/
namespace Go.Proofs.Ythglkoddmpicdaa.Gl
open Go.RowKit Go.Shelf Go.Proofs.YthglkoddmpicdaaW.PrintWords Go.Proofs.YthglkoddmpicdaaW.PrintLast Go.Proofs.YthglkoddmpicdaaW.PrintMore Go.Proofs.Ythglkoddmpicdaa.Pr Go.Proofs.YthglkoddmpicdaaW.Round
set_option linter.unusedVariables false
set_option linter.unusedSimpArgs false
attribute [local go_sem] max2_int min2_int max_two min_two max_four
/-- The box that a dive may reach. -/
def grownI (s : Sea) (v : Veh) (x : S29) : S29 := ⟨⟨x.f0.f0 - ((v.speed + s.most) * v.dive + 999) / 1000, x.f0.f1 + ((v.speed + s.most) * v.dive + 999) / 1000⟩, ⟨x.f1.f0 - ((v.speed + s.most) * v.dive + 999) / 1000, x.f1.f1 + ((v.speed + s.most) * v.dive + 999) / 1000⟩⟩
def reachE (s : Sea) (v : Veh) (x : S29) (t : Int) : Int := if (containsI s (grownI s v x) && knownI s t (t + v.dive)) = true then 0 else 5
def reachV (s : Sea) (v : Veh) (x : S29) (t : Int) : S29 := if reachE s v x t = 0 then grownI s v x else z29
/-- A box whose numbers are not too large. -/
def SmallB (x : S29) : Prop := (-1099511627776 ≤ x.f0.f0 ∧ x.f0.f0 ≤ 1099511627776) ∧ (-1099511627776 ≤ x.f0.f1 ∧ x.f0.f1 ≤ 1099511627776) ∧ (-1099511627776 ≤ x.f1.f0 ∧ x.f1.f0 ≤ 1099511627776) ∧ (-1099511627776 ≤ x.f1.f1 ∧ x.f1.f1 ≤ 1099511627776)
set_option maxRecDepth 100000 in
set_option maxHeartbeats 4000000 in
theorem reach_any (b : Nat) (s : Sea) (v : Veh) (x : S29) (t : Int) (w : World) (hT : TripAt w b s v) (hS : SeaN s) (hV : VehN v) (hx : SmallB x) (ht0 : 0 ≤ t) (ht1 : t ≤ 1099511627776) :
  Calls Try.prog 133 #[.pointer (some ⟨b, 0, none⟩), .agg #[.int .i64 x.f0.f0, .int .i64 x.f0.f1, .int .i64 x.f1.f0, .int .i64 x.f1.f1], .int .i64 t] w (RetB (.tuple #[.agg #[.int .i64 (reachV s v x t).f0.f0, .int .i64 (reachV s v x t).f0.f1, .int .i64 (reachV s v x t).f1.f0, .int .i64 (reachV s v x t).f1.f1], .int .i64 (reachE s v x t)]) w) := by
 have hu29 := Try.underlying29
 have hu27 := Try.underlying27
 have hT0 := hT
 obtain ⟨A7, c7, A8, c8, mT, _⟩ := hT0
 have hm := hS.most
 have hsp := hV.speed
 have hdv := hV.dive
 have p1 := mul_in (show 0 ≤ v.speed + s.most by omega) (show v.speed + s.most ≤ 10000 by omega) (show 0 ≤ v.dive by omega) hdv.2
 have kC := fun W (h : TripAt W b s v) => contains_any b s v (grownI s v x) W h hS
 have kN := fun W (h : TripAt W b s v) => known_any b s v t (t + v.dive) W h hS
 have HE : Hid (reachE s v x t = if (containsI s (grownI s v x) && knownI s t (t + v.dive)) = true then 0 else 5) := Lib.hid rfl
 have HV : Hid (reachV s v x t = if reachE s v x t = 0 then grownI s v x else z29) := Lib.hid rfl
 have hG : grownI s v x = ⟨⟨x.f0.f0 - ((v.speed + s.most) * v.dive + 999) / 1000, x.f0.f1 + ((v.speed + s.most) * v.dive + 999) / 1000⟩, ⟨x.f1.f0 - ((v.speed + s.most) * v.dive + 999) / 1000, x.f1.f1 + ((v.speed + s.most) * v.dive + 999) / 1000⟩⟩ := rfl
 obtain ⟨x0, x1, x2, x3⟩ := hx
 clear hS hV
 go_enter Try.func133, Try.ntmps133
 go_wp2_with fail
 have hl_T := blk_lt mT
 have m4 : Blk ((w.alloc (.cells #[.int .i64 x.f0.f0, .int .i64 x.f0.f1, .int .i64 x.f1.f0, .int .i64 x.f1.f1] 29)).alloc (.cells #[.int .i64 0, .int .i64 0, .int .i64 0, .int .i64 0] 29)) (w.heap.size) #[.int .i64 x.f0.f0, .int .i64 x.f0.f1, .int .i64 x.f1.f0, .int .i64 x.f1.f1] 29 := (blk_alloc zq27 _)
 have m6 : Blk ((w.alloc (.cells #[.int .i64 x.f0.f0, .int .i64 x.f0.f1, .int .i64 x.f1.f0, .int .i64 x.f1.f1] 29)).alloc (.cells #[.int .i64 0, .int .i64 0, .int .i64 0, .int .i64 0] 29)) (w.heap.size + 1) #[.int .i64 0, .int .i64 0, .int .i64 0, .int .i64 0] 29 := (by have h_ := blk_new (w.alloc (.cells #[.int .i64 x.f0.f0, .int .i64 x.f0.f1, .int .i64 x.f1.f0, .int .i64 x.f1.f1] 29)) (.cells #[.int .i64 0, .int .i64 0, .int .i64 0, .int .i64 0] 29); first | exact h_ | (simp only [World.size_alloc] at h_; exact h_))
 replace mT : Blk ((w.alloc (.cells #[.int .i64 x.f0.f0, .int .i64 x.f0.f1, .int .i64 x.f1.f0, .int .i64 x.f1.f1] 29)).alloc (.cells #[.int .i64 0, .int .i64 0, .int .i64 0, .int .i64 0] 29)) b #[.int .i64 s.nx, .int .i64 s.ny, .int .i64 s.cell, .int .i64 s.slot, .int .i64 s.slots, .int .i64 s.layers, .int .i64 s.most, .slice A7 s.shores.length c7, .slice A8 s.currents.length c8, .int .i64 v.speed, .int .i64 v.dive, .int .i64 v.use.f0, .int .i64 v.use.f1, .int .i64 v.drift.f0, .int .i64 v.drift.f1, .int .i64 v.reserve] 120 := (blk_alloc (blk_alloc mT _) _)
 have mB : Below w.heap.size w ((w.alloc (.cells #[.int .i64 x.f0.f0, .int .i64 x.f0.f1, .int .i64 x.f1.f0, .int .i64 x.f1.f1] 29)).alloc (.cells #[.int .i64 0, .int .i64 0, .int .i64 0, .int .i64 0] 29)) := (below_alloc (below_alloc (Below.refl w.heap.size w) _) _)
 have hsz_ : w.heap.size ≤ w.heap.size := Nat.le_refl _
 generalize hW_ : ((w.alloc (.cells #[.int .i64 x.f0.f0, .int .i64 x.f0.f1, .int .i64 x.f1.f0, .int .i64 x.f1.f1] 29)).alloc (.cells #[.int .i64 0, .int .i64 0, .int .i64 0, .int .i64 0] 29)) = W1 at mT m4 m6 mB ⊢
 clear hW_
 generalize hg4 : w.heap.size = g4 at m4 m6 ⊢
 have hn_T_4 : b ≠ g4 := by omega
 have hn_4_T : g4 ≠ b := hn_T_4.symm
 have hG4 : w.heap.size ≤ g4 := by omega
 generalize hg6 : g4 + 1 = g6 at m6 ⊢
 have hn_T_6 : b ≠ g6 := by omega
 have hn_4_6 : g4 ≠ g6 := by omega
 have hn_6_T : g6 ≠ b := hn_T_6.symm
 have hn_6_4 : g6 ≠ g4 := hn_4_6.symm
 have hG6 : w.heap.size ≤ g6 := by omega
 clear hsz_ hl_T
 try clear hg6
 try clear hg4
 have hs_W1 : w.heap.size ≤ W1.heap.size := mB.size
 have cT6 : W1.cell? ⟨b, 6, none⟩ = some (.int .i64 s.most) := (blk_cell mT 6).trans rfl
 have cT9 : W1.cell? ⟨b, 9, none⟩ = some (.int .i64 v.speed) := (blk_cell mT 9).trans rfl
 have cT10 : W1.cell? ⟨b, 10, none⟩ = some (.int .i64 v.dive) := (blk_cell mT 10).trans rfl
 have q1 : wrap64 (v.speed + s.most) = v.speed + s.most := by unfold wrap64; omega
 have q2 : wrap64 ((v.speed + s.most) * v.dive) = (v.speed + s.most) * v.dive := by unfold wrap64; omega
 have q3 : wrap64 ((v.speed + s.most) * v.dive + 999) = (v.speed + s.most) * v.dive + 999 := by unfold wrap64; omega
 have q4 : Int.tdiv ((v.speed + s.most) * v.dive + 999) 1000 = ((v.speed + s.most) * v.dive + 999) / 1000 := Int.tdiv_eq_ediv_of_nonneg (by omega)
 have hby : 0 ≤ ((v.speed + s.most) * v.dive + 999) / 1000 ∧ ((v.speed + s.most) * v.dive + 999) / 1000 ≤ 2000000 := by omega
 go_quiet (fail)
 replace mT := blk_drewN mT nq
 replace m4 := blk_drewN m4 nq
 replace m6 := blk_drewN m6 nq
 replace mB := pw_below_drewN mB nq
 generalize hWq : World.drewN _ nq = W2 at mT m4 m6 mB ⊢
 clear hWq
 have hs_W2 : w.heap.size ≤ W2.heap.size := mB.size
 clear cT6 cT9 cT10 q1 q2 q3 q4
 generalize ((v.speed + s.most) * v.dive + 999) / 1000 = y at *
 clear p1
 generalize grownI s v x = G at *
 subst hG
 dsimp only at kC
 obtain ⟨c4_0, c4_1, c4_2, c4_3⟩ := zcs4 m4
 go_wp2_with fail
 clear c4_0 c4_1 c4_2 c4_3
 have hl_T := blk_lt mT
 have hl_4 := blk_lt m4
 have hl_6 := blk_lt m6
 have m9 : Blk (W2.alloc (.cells #[.int .i64 (x.f0.f0 - y), .int .i64 (x.f0.f1 + y), .int .i64 (x.f1.f0 - y), .int .i64 (x.f1.f1 + y)] 29)) (W2.heap.size) #[.int .i64 (x.f0.f0 - y), .int .i64 (x.f0.f1 + y), .int .i64 (x.f1.f0 - y), .int .i64 (x.f1.f1 + y)] 29 := (by have h_ := blk_new W2 (.cells #[.int .i64 (x.f0.f0 - y), .int .i64 (x.f0.f1 + y), .int .i64 (x.f1.f0 - y), .int .i64 (x.f1.f1 + y)] 29); first | exact h_ | (simp only [World.size_alloc] at h_; exact h_))
 replace mT : Blk (W2.alloc (.cells #[.int .i64 (x.f0.f0 - y), .int .i64 (x.f0.f1 + y), .int .i64 (x.f1.f0 - y), .int .i64 (x.f1.f1 + y)] 29)) b #[.int .i64 s.nx, .int .i64 s.ny, .int .i64 s.cell, .int .i64 s.slot, .int .i64 s.slots, .int .i64 s.layers, .int .i64 s.most, .slice A7 s.shores.length c7, .slice A8 s.currents.length c8, .int .i64 v.speed, .int .i64 v.dive, .int .i64 v.use.f0, .int .i64 v.use.f1, .int .i64 v.drift.f0, .int .i64 v.drift.f1, .int .i64 v.reserve] 120 := (blk_alloc mT _)
 replace m4 : Blk (W2.alloc (.cells #[.int .i64 (x.f0.f0 - y), .int .i64 (x.f0.f1 + y), .int .i64 (x.f1.f0 - y), .int .i64 (x.f1.f1 + y)] 29)) g4 #[.int .i64 x.f0.f0, .int .i64 x.f0.f1, .int .i64 x.f1.f0, .int .i64 x.f1.f1] 29 := (blk_alloc m4 _)
 replace m6 : Blk (W2.alloc (.cells #[.int .i64 (x.f0.f0 - y), .int .i64 (x.f0.f1 + y), .int .i64 (x.f1.f0 - y), .int .i64 (x.f1.f1 + y)] 29)) g6 #[.int .i64 0, .int .i64 0, .int .i64 0, .int .i64 0] 29 := (blk_alloc m6 _)
 replace mB : Below w.heap.size w (W2.alloc (.cells #[.int .i64 (x.f0.f0 - y), .int .i64 (x.f0.f1 + y), .int .i64 (x.f1.f0 - y), .int .i64 (x.f1.f1 + y)] 29)) := (below_alloc mB _)
 have hsz_ : w.heap.size ≤ W2.heap.size := hs_W2
 generalize hW_ : (W2.alloc (.cells #[.int .i64 (x.f0.f0 - y), .int .i64 (x.f0.f1 + y), .int .i64 (x.f1.f0 - y), .int .i64 (x.f1.f1 + y)] 29)) = W3 at mT m4 m6 m9 mB ⊢
 clear hW_
 generalize hg9 : W2.heap.size = g9 at m9 ⊢
 have hn_T_9 : b ≠ g9 := by omega
 have hn_4_9 : g4 ≠ g9 := by omega
 have hn_6_9 : g6 ≠ g9 := by omega
 have hn_9_T : g9 ≠ b := hn_T_9.symm
 have hn_9_4 : g9 ≠ g4 := hn_4_9.symm
 have hn_9_6 : g9 ≠ g6 := hn_6_9.symm
 have hG9 : w.heap.size ≤ g9 := by omega
 clear hsz_ hl_T hl_4 hl_6
 try clear hg9
 have hs_W3 : w.heap.size ≤ W3.heap.size := mB.size
 have hcon := kC W3 (hT.below mB)
 (with_reducible refine hcon.mono ?_)
 clear hcon
 rintro e W4 ⟨rfl, hb⟩
 replace mT := blk_below mT hb
 replace m4 := blk_below m4 hb
 replace m6 := blk_below m6 hb
 replace m9 := blk_below m9 hb
 replace mB := below_step mB hb
 clear hb
 have hs_W4 : w.heap.size ≤ W4.heap.size := mB.size
 cases hc : containsI s ⟨⟨x.f0.f0 - y, x.f0.f1 + y⟩, ⟨x.f1.f0 - y, x.f1.f1 + y⟩⟩ with
 | false =>
  have HZ : Hid (reachE s v x t = 5) := Lib.hid (by rw [HE.out, hc]; rfl)
  clear HE
  have HV2 : Hid (reachV s v x t = z29) := Lib.hid (HV.out.trans zq21)
  clear HV
  obtain ⟨c6_0, c6_1, c6_2, c6_3, f6_0, f6_1, f6_2, f6_3⟩ := zce4 m6
  go_wp2
  exact bodyPost_ret (results_ct rfl _ _ g6 29 #[.int .i64 0, .int .i64 0, .int .i64 0, .int .i64 0] (0, 0) _ rfl (blk_put (blk_put (blk_put (blk_put m6 0 (.int .i64 0) rfl) 1 (.int .i64 0) rfl) 2 (.int .i64 0) rfl) 3 (.int .i64 0) rfl) Try.underlying29 rfl zq3) rfl ⟨by rw [HV2.out, HZ.out]; rfl, (Below.setCell (p := ⟨g6, 3, none⟩) (Below.setCell (p := ⟨g6, 2, none⟩) (Below.setCell (p := ⟨g6, 1, none⟩) (Below.setCell (p := ⟨g6, 0, none⟩) mB hG6 _) hG6 _) hG6 _) hG6 _)⟩
 | true =>
  have HC := Lib.hid hc
  clear hc
  have cT10 : W4.cell? ⟨b, 10, none⟩ = some (.int .i64 v.dive) := (blk_cell mT 10).trans rfl
  go_wp2_with fail
  clear cT10
  have hcon := kN W4 (hT.below mB)
  (with_reducible refine hcon.mono ?_)
  clear hcon
  rintro e W5 ⟨rfl, hb⟩
  replace mT := blk_below mT hb
  replace m4 := blk_below m4 hb
  replace m6 := blk_below m6 hb
  replace m9 := blk_below m9 hb
  replace mB := below_step mB hb
  clear hb
  have hs_W5 : w.heap.size ≤ W5.heap.size := mB.size
  cases hk : knownI s t (t + v.dive) with
  | false =>
   have HZ : Hid (reachE s v x t = 5) := Lib.hid (by rw [HE.out, HC.out, hk]; rfl)
   clear HE
   have HV2 : Hid (reachV s v x t = z29) := Lib.hid (HV.out.trans zq21)
   clear HV
   obtain ⟨c6_0, c6_1, c6_2, c6_3, f6_0, f6_1, f6_2, f6_3⟩ := zce4 m6
   go_wp2
   exact bodyPost_ret (results_ct rfl _ _ g6 29 #[.int .i64 0, .int .i64 0, .int .i64 0, .int .i64 0] (0, 0) _ rfl (blk_put (blk_put (blk_put (blk_put m6 0 (.int .i64 0) rfl) 1 (.int .i64 0) rfl) 2 (.int .i64 0) rfl) 3 (.int .i64 0) rfl) Try.underlying29 rfl zq3) rfl ⟨by rw [HV2.out, HZ.out]; rfl, (Below.setCell (p := ⟨g6, 3, none⟩) (Below.setCell (p := ⟨g6, 2, none⟩) (Below.setCell (p := ⟨g6, 1, none⟩) (Below.setCell (p := ⟨g6, 0, none⟩) mB hG6 _) hG6 _) hG6 _) hG6 _)⟩
  | true =>
   have HZ : Hid (reachE s v x t = 0) := Lib.hid (by rw [HE.out, HC.out, hk]; rfl)
   clear HE hk
   have HV2 := Lib.hid (HV.out.trans (if_pos HZ.out))
   clear HV
   obtain ⟨c6_0, c6_1, c6_2, c6_3⟩ := zcs4 m6
   obtain ⟨c9_0, c9_1, c9_2, c9_3⟩ := zcs4 m9
   obtain ⟨f6_0, f6_1, f6_2, f6_3⟩ := zfs4 m6
   go_wp2
   exact bodyPost_ret (results_ct rfl _ _ g6 29 #[.int .i64 (x.f0.f0 - y), .int .i64 (x.f0.f1 + y), .int .i64 (x.f1.f0 - y), .int .i64 (x.f1.f1 + y)] (0, 0) _ rfl (blk_put (blk_put (blk_put (blk_put m6 0 (.int .i64 (x.f0.f0 - y)) rfl) 1 (.int .i64 (x.f0.f1 + y)) rfl) 2 (.int .i64 (x.f1.f0 - y)) rfl) 3 (.int .i64 (x.f1.f1 + y)) rfl) Try.underlying29 rfl zq3) rfl ⟨by rw [HV2.out, HZ.out]; rfl, (Below.setCell (p := ⟨g6, 3, none⟩) (Below.setCell (p := ⟨g6, 2, none⟩) (Below.setCell (p := ⟨g6, 1, none⟩) (Below.setCell (p := ⟨g6, 0, none⟩) mB hG6 _) hG6 _) hG6 _) hG6 _)⟩
end Go.Proofs.Ythglkoddmpicdaa.Gl
end
