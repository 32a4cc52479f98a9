/- Part 3 of the proof of GliderEnergies: what the functions compute. No condition. -/
import Derived.Test.YtmhaiihjfgfaoaaGrGliderEnergies1
import Derived.Test.YtmhaiihjfgfaoaaGrGliderEnergies2
section
/- The current at a box. -/
namespace Go.Proofs.Ytmhaiihjfgfaoaa.Gl
open Go.RowKit Go.Shelf Go.Proofs.YtmhaiihjfgfaoaaW.PrintWords Go.Proofs.YtmhaiihjfgfaoaaW.PrintLast Go.Proofs.YtmhaiihjfgfaoaaW.PrintMore Go.Proofs.Ytmhaiihjfgfaoaa.Pr Go.Proofs.YtmhaiihjfgfaoaaW.Round
set_option linter.unusedVariables false
set_option linter.unusedSimpArgs false
attribute [local go_sem] max2_int min2_int max_two min_two max_four
attribute [local go_sem] Oper.semAt_some
theorem mn_min' (a b : Int) : mn a b = min a b := by unfold mn; split <;> omega
theorem mx_max' (a b : Int) : mx a b = max a b := by unfold mx; split <;> omega
/-- The hull of two boxes. -/
def hullB (a b : S31) : S31 := ⟨⟨min a.f0.f0 b.f0.f0, max a.f0.f1 b.f0.f1⟩, ⟨min a.f1.f0 b.f1.f0, max a.f1.f1 b.f1.f1⟩⟩
def hullO (o : Option S31) (y : S31) : Option S31 := some (match o with | none => y | some z => hullB z y)
/-- The hull of some boxes; none of no box. -/
def hullL (l : List S31) : Option S31 := l.foldl hullO none
theorem hullL_snoc (l : List S31) (y : S31) : hullL (l ++ [y]) = hullO (hullL l) y := by unfold hullL; rw [List.foldl_append]; rfl
/-- The current of a cell in a slot, as a box. -/
def curB (s : Sea) (layer j c : Int) : S31 := ⟨(rd_T40 s.currents ((j * s.layers + layer) * (s.nx * s.ny) + c)).f0, (rd_T40 s.currents ((j * s.layers + layer) * (s.nx * s.ny) + c)).f1⟩
def slotL (s : Sea) (x : S31) (layer j : Int) : List S31 := (touchL s x).map (curB s layer j)
def boxesL (s : Sea) (x : S31) (layer j0 : Int) (q : Nat) : List S31 := (List.range q).flatMap fun r : Nat => slotL s x layer (j0 + (r : Int))
theorem boxesL_succ (s : Sea) (x : S31) (layer j0 : Int) (q : Nat) : boxesL s x layer j0 (q + 1) = boxesL s x layer j0 q ++ slotL s x layer (j0 + (q : Int)) := by
  unfold boxesL
  rw [List.range_succ, List.flatMap_append, List.flatMap_singleton]
/-- The current at a box. -/
def atI (s : Sea) (x : S31) (layer t u : Int) : S31 := (hullL (boxesL s x layer (t / s.slot) ((u - 1) / s.slot + 1 - t / s.slot).toNat)).getD z31
/-- What a round keeps: what lay below w, and what the iterator has captured. -/
def KpT (w : World) (bp bx b : Nat) (x : S31) (A B : World) : Prop := Below w.heap.size A B ∧ (Blk A bp #[.pointer (some ⟨b, 0, none⟩)] 104 → Blk B bp #[.pointer (some ⟨b, 0, none⟩)] 104) ∧ (Blk A bx #[.int .i64 x.f0.f0, .int .i64 x.f0.f1, .int .i64 x.f1.f0, .int .i64 x.f1.f1] 31 → Blk B bx #[.int .i64 x.f0.f0, .int .i64 x.f0.f1, .int .i64 x.f1.f0, .int .i64 x.f1.f1] 31)
theorem KpT.trans {w : World} {bp bx b : Nat} {x : S31} {A B C : World} (h : KpT w bp bx b x A B) (k : KpT w bp bx b x B C) : KpT w bp bx b x A C := ⟨h.1.trans k.1, fun q => k.2.1 (h.2.1 q), fun q => k.2.2 (h.2.2 q)⟩
theorem KpT.put {w W0 : World} {bp bx b : Nat} {x : S31} (hw : w.heap.size ≤ W0.heap.size) (hp : bp < W0.heap.size) (hx : bx < W0.heap.size) (W : World) (l : Nat) (o o' : Obj) (hl : W0.heap.size ≤ l) (h : W.heap[l]? = some o) (h1 : o.isCells = false) (h2 : o.isWalk = false) : KpT w bp bx b x W (W.putObj l o') :=
  ⟨belowK_b hw W l o o' hl h h1 h2, fun q => (World.putObj_heap_other (by omega)).trans q, fun q => (World.putObj_heap_other (by omega)).trans q⟩
theorem KpT.below {w : World} {bp bx b : Nat} {x : S31} {A B : World} (hw : w.heap.size ≤ A.heap.size) (h : Below A.heap.size A B) : KpT w bp bx b x A B := ⟨h.mono hw, fun q => Blk.belowH q h, fun q => Blk.belowH q h⟩
theorem KpT.set {w : World} {bp bx b : Nat} {x : S31} {A B : World} (h : KpT w bp bx b x A B) {p : Addr} (hp : w.heap.size ≤ p.block) (h1 : bp ≠ p.block) (h2 : bx ≠ p.block) (u : Value) : KpT w bp bx b x A (B.setCell p u) := ⟨h.1.setCell hp u, fun q => blk_far (h.2.1 q) h1 u, fun q => blk_far (h.2.2 q) h2 u⟩
/-- A mark among the deferred calls. -/
def mark (D_ : Nat) : Deferred := { target := .collected D_, args := #[] }
/-- The marks of the ranges over functions that are over. -/
def Marks (W : World) (B : Nat) (Ds : List Nat) : Prop := Ds.Nodup ∧ ∀ D_ ∈ Ds, B ≤ D_ ∧ W.heap[D_]? = some (.deferred (some []))
theorem Marks.nil (W : World) (B : Nat) : Marks W B [] := ⟨List.nodup_nil, fun D_ h => by cases h⟩
theorem Marks.below {W W1 : World} {B : Nat} {Ds : List Nat} (h : Marks W B Ds) (hb : Below W.heap.size W W1) : Marks W1 B Ds :=
  ⟨h.1, fun D_ hD => ⟨(h.2 D_ hD).1, (hb.block D_ (Array.getElem?_eq_some_iff.1 (h.2 D_ hD).2).1).trans (h.2 D_ hD).2⟩⟩
theorem Marks.cons {W : World} {B D_ : Nat} {Ds : List Nat} (h : Marks W B Ds) (hn : D_ ∉ Ds) (hB : B ≤ D_) (hD : W.heap[D_]? = some (.deferred (some []))) : Marks W B (D_ :: Ds) :=
  ⟨List.nodup_cons.2 ⟨hn, h.1⟩, fun E hE => by
    rcases List.mem_cons.1 hE with rfl | hE
    · exact ⟨hB, hD⟩
    · exact h.2 E hE⟩
theorem Marks.set {W : World} {B : Nat} {Ds : List Nat} (h : Marks W B Ds) {g i : Nat} {cs : Array Value} {t : TypeId} (hg : W.heap[g]? = some (.cells cs t (0, 0))) (u : Value) : Marks (W.setCell ⟨g, i, none⟩ u) B Ds :=
  ⟨h.1, fun D_ hD => ⟨(h.2 D_ hD).1, (Below.heap_setCell _ _ _ D_ (fun e => by
    have h2 := (h.2 D_ hD).2
    rw [show D_ = g from e, hg] at h2
    cases h2)).trans (h.2 D_ hD).2⟩⟩
theorem marks_ownFrom {β : Type} (B B0 : Nat) (Ds : List Nat) (h : ∀ D_ ∈ Ds, D_ < B) : OwnFrom B (fun (_ : β) W => Marks W B0 Ds) := fun s X Y row hs hg hr =>
  ⟨hs.1, fun D_ hD => ⟨(hs.2 D_ hD).1, (hg.block D_ (Array.getElem?_eq_some_iff.1 (hs.2 D_ hD).2).1 (fun e => by have h1 := (hr D_ e.symm).1; have h2 := h D_ hD; omega)).trans (hs.2 D_ hD).2⟩⟩
/-- A function leaves with marks: each is taken, and what abides this is said at the end. -/
theorem leaves_marks {P : Program} {F : Fence} {n : Nat} {fn : Func} {tmps : Array Value} {R : Ending → World → Prop} {B : Nat} (I : World → Prop) (hI : ∀ W D_, I W → B ≤ D_ → W.heap[D_]? = some (.deferred (some [])) → I (W.putObj D_ (.deferred none)))
    (hend : ∀ W, I W → LeavesInM F n P fn tmps R [] .returning W) : ∀ (Ds : List Nat) (W : World), Marks W B Ds → I W → LeavesInM F n P fn tmps R (Ds.map mark) .returning W
  | [], W, _, h => hend W h
  | D_ :: Ds, W, hM, h => by
    have hD := hM.2 D_ List.mem_cons_self
    refine ⟨by simp, .inl ⟨D_, _, rfl, run_takeDeferred hD.2, ?_⟩⟩
    refine leaves_marks I hI hend Ds _ ⟨(List.nodup_cons.1 hM.1).2, fun E hE => ?_⟩ (hI W D_ h hD.1 hD.2)
    have hE2 := hM.2 E (List.mem_cons_of_mem _ hE)
    have hne : E ≠ D_ := fun e => (List.nodup_cons.1 hM.1).1 (e ▸ hE)
    exact ⟨hE2.1, (World.putObj_heap_other (fun e => hne e)).trans hE2.2⟩
theorem index_in {q l k c ll kk : Int} (h0 : 0 ≤ q) (h1 : q < ll) (h2 : 0 ≤ l) (h3 : l < kk) (h4 : 0 ≤ c) (h5 : c < k) : 0 ≤ (q * kk + l) * k + c ∧ (q * kk + l) * k + c < ll * kk * k := by
  have a0 : 0 ≤ q * kk := Int.mul_nonneg h0 (by omega)
  have a1 : 0 ≤ (q * kk + l) * k := Int.mul_nonneg (by omega) (by omega)
  have a2 : (q + 1) * kk ≤ ll * kk := Int.mul_le_mul_of_nonneg_right (by omega) (by omega)
  rw [Int.add_mul, Int.one_mul] at a2
  have a3 : (q * kk + l + 1) * k ≤ ll * kk * k := Int.mul_le_mul_of_nonneg_right (by omega) (by omega)
  rw [Int.add_mul, Int.one_mul] at a3
  omega
def outV (l : List S31) : S31 := (hullL l).getD z31
theorem outV_snoc_none {l : List S31} {y : S31} (h : hullL l = none) : hullL (l ++ [y]) = some y := by rw [hullL_snoc, h]; rfl
theorem outV_snoc_some {l : List S31} {y z : S31} (h : hullL l = some z) : hullL (l ++ [y]) = some (hullB z y) := by rw [hullL_snoc, h]; rfl
theorem hull_any (a c : S31) (w : World) : Calls Try.prog 119 #[.agg #[.int .i64 a.f0.f0, .int .i64 a.f0.f1, .int .i64 a.f1.f0, .int .i64 a.f1.f1], .agg #[.int .i64 c.f0.f0, .int .i64 c.f0.f1, .int .i64 c.f1.f0, .int .i64 c.f1.f1]] w
    (RetB (.agg #[.int .i64 (hullB a c).f0.f0, .int .i64 (hullB a c).f0.f1, .int .i64 (hullB a c).f1.f0, .int .i64 (hullB a c).f1.f1]) w) :=
  glider_hull.calls _ _ _ _ _ _ _ _ _ _ _ _ w (by unfold glider_hull.f hullB; simp only [mn_min', mx_max'])
set_option maxRecDepth 100000 in
set_option maxHeartbeats 8000000 in
theorem at_any (b : Nat) (s : Sea) (v : Veh) (x : S31) (layer t u : Int) (w : World) (hT : TripAt w b s v) (hS : SeaN s) (hx : InSea s x) (hcu : (s.currents.length : Int) = s.slots * s.layers * (s.nx * s.ny)) (hl0 : 0 ≤ layer) (hl1 : layer < s.layers) (ht0 : 0 ≤ t) (ht1 : t < u) (ht2 : u ≤ s.slots * s.slot) :
    Calls Try.prog 70 #[.pointer (some ⟨b, 0, none⟩), .agg #[.int .i64 x.f0.f0, .int .i64 x.f0.f1, .int .i64 x.f1.f0, .int .i64 x.f1.f1], .int .i64 layer, .int .i64 t, .int .i64 u] w (RetB (.agg #[.int .i64 (atI s x layer t u).f0.f0, .int .i64 (atI s x layer t u).f0.f1, .int .i64 (atI s x layer t u).f1.f0, .int .i64 (atI s x layer t u).f1.f1]) w) := by
  have hu31 := Try.underlying31
  have hxy := mul_in (show 0 ≤ s.nx by have := hS.nx; omega) hS.nx.2 (show 0 ≤ s.ny by have := hS.ny; omega) hS.ny.2
  have hss := mul_in (show 0 ≤ s.slots by have := hS.slots; omega) hS.slots.2 (show 0 ≤ s.slot by have := hS.slot; omega) hS.slot.2
  have hsl := hS.slot
  have hso := hS.slots
  have hla := hS.layers
  have hcl : s.currents.length ≤ 10000 := by
    have h1 := mul_in (show 0 ≤ s.slots by omega) hso.2 (show 0 ≤ s.layers by omega) hla.2
    have h2 := mul_in h1.1 h1.2 hxy.1 hxy.2
    omega
  have HCU := Lib.hid hcu
  clear hcu
  have hj0 := div_in ht0 (show 1 ≤ s.slot by omega)
  have hj1 := div_in (show 0 ≤ u - 1 by omega) (show 1 ≤ s.slot by omega)
  have hj2 : (u - 1) / s.slot < s.slots := by
    refine Int.ediv_lt_of_lt_mul (by omega) ?_
    omega
  have e0 : Int.tdiv t s.slot = t / s.slot := Int.tdiv_eq_ediv_of_nonneg ht0
  have e1 : Int.tdiv (u - 1) s.slot = (u - 1) / s.slot := Int.tdiv_eq_ediv_of_nonneg (by omega)
  have hne : s.slot ≠ 0 := by omega
  have hbq : (s.slot == 0) = false := beq_eq_false_iff_ne.2 hne
  have HR : Hid (atI s x layer t u = (hullL (boxesL s x layer (t / s.slot) ((u - 1) / s.slot + 1 - t / s.slot).toNat)).getD z31) := Lib.hid rfl
  generalize t / s.slot = j0 at *
  generalize (u - 1) / s.slot = j1 at *
  have hT0 := hT
  obtain ⟨A7, c7, A8, c8, mT, _⟩ := hT0
  refine (callsIn_wide (n := 6)).1 ?_
  refine callsIn_of_wp_marks Try.func70 rfl trivial ?_ rfl
  simp only [Try.ntmps70, List.size_toArray, List.length_cons, List.length_nil, Nat.reduceAdd, Nat.reduceSub, Array.replicate_succ, Array.replicate_zero, List.push_toArray, List.append_toArray, List.nil_append, List.cons_append]
  gi_wp2_with fail
  have hl_T := blk_lt mT
  have m5 : Blk (((w.alloc (.cells #[.pointer (some ⟨b, 0, none⟩)] 104)).alloc (.cells #[.int .i64 x.f0.f0, .int .i64 x.f0.f1, .int .i64 x.f1.f0, .int .i64 x.f1.f1] 31)).alloc (.cells #[.int .i64 0, .int .i64 0, .int .i64 0, .int .i64 0] 31)) (w.heap.size) #[.pointer (some ⟨b, 0, none⟩)] 104 := (blk_alloc (blk_alloc zq19 _) _)
  have m6 : Blk (((w.alloc (.cells #[.pointer (some ⟨b, 0, none⟩)] 104)).alloc (.cells #[.int .i64 x.f0.f0, .int .i64 x.f0.f1, .int .i64 x.f1.f0, .int .i64 x.f1.f1] 31)).alloc (.cells #[.int .i64 0, .int .i64 0, .int .i64 0, .int .i64 0] 31)) (w.heap.size + 1) #[.int .i64 x.f0.f0, .int .i64 x.f0.f1, .int .i64 x.f1.f0, .int .i64 x.f1.f1] 31 := (blk_alloc zq20 _)
  have m10 : Blk (((w.alloc (.cells #[.pointer (some ⟨b, 0, none⟩)] 104)).alloc (.cells #[.int .i64 x.f0.f0, .int .i64 x.f0.f1, .int .i64 x.f1.f0, .int .i64 x.f1.f1] 31)).alloc (.cells #[.int .i64 0, .int .i64 0, .int .i64 0, .int .i64 0] 31)) (w.heap.size + 1 + 1) #[.int .i64 0, .int .i64 0, .int .i64 0, .int .i64 0] 31 := (by have h_ := blk_new ((w.alloc (.cells #[.pointer (some ⟨b, 0, none⟩)] 104)).alloc (.cells #[.int .i64 x.f0.f0, .int .i64 x.f0.f1, .int .i64 x.f1.f0, .int .i64 x.f1.f1] 31)) (.cells #[.int .i64 0, .int .i64 0, .int .i64 0, .int .i64 0] 31); first | exact h_ | (simp only [World.size_alloc] at h_; exact h_))
  replace mT : Blk (((w.alloc (.cells #[.pointer (some ⟨b, 0, none⟩)] 104)).alloc (.cells #[.int .i64 x.f0.f0, .int .i64 x.f0.f1, .int .i64 x.f1.f0, .int .i64 x.f1.f1] 31)).alloc (.cells #[.int .i64 0, .int .i64 0, .int .i64 0, .int .i64 0] 31)) b #[.int .i64 s.nx, .int .i64 s.ny, .int .i64 s.cell, .int .i64 s.slot, .int .i64 s.slots, .int .i64 s.layers, .int .i64 s.most, .slice A7 s.shores.length c7, .slice A8 s.currents.length c8, .int .i64 v.speed, .int .i64 v.dive, .int .i64 v.use.f0, .int .i64 v.use.f1, .int .i64 v.drift.f0, .int .i64 v.drift.f1, .int .i64 v.reserve] 110 := (blk_alloc (blk_alloc (blk_alloc mT _) _) _)
  have mB : Below w.heap.size w (((w.alloc (.cells #[.pointer (some ⟨b, 0, none⟩)] 104)).alloc (.cells #[.int .i64 x.f0.f0, .int .i64 x.f0.f1, .int .i64 x.f1.f0, .int .i64 x.f1.f1] 31)).alloc (.cells #[.int .i64 0, .int .i64 0, .int .i64 0, .int .i64 0] 31)) := (below_alloc (below_alloc (below_alloc (Below.refl w.heap.size w) _) _) _)
  have hsz_ : w.heap.size ≤ w.heap.size := Nat.le_refl _
  generalize hW_ : (((w.alloc (.cells #[.pointer (some ⟨b, 0, none⟩)] 104)).alloc (.cells #[.int .i64 x.f0.f0, .int .i64 x.f0.f1, .int .i64 x.f1.f0, .int .i64 x.f1.f1] 31)).alloc (.cells #[.int .i64 0, .int .i64 0, .int .i64 0, .int .i64 0] 31)) = W1 at mT m5 m6 m10 mB ⊢
  clear hW_
  generalize hg5 : w.heap.size = g5 at m5 m6 m10 ⊢
  have hn_T_5 : b ≠ g5 := by omega
  have hn_5_T : g5 ≠ b := hn_T_5.symm
  have hG5 : w.heap.size ≤ g5 := by omega
  generalize hg6 : g5 + 1 = g6 at m6 m10 ⊢
  have hn_T_6 : b ≠ g6 := by omega
  have hn_5_6 : g5 ≠ g6 := by omega
  have hn_6_T : g6 ≠ b := hn_T_6.symm
  have hn_6_5 : g6 ≠ g5 := hn_5_6.symm
  have hG6 : w.heap.size ≤ g6 := by omega
  generalize hg10 : g6 + 1 = g10 at m10 ⊢
  have hn_T_10 : b ≠ g10 := by omega
  have hn_5_10 : g5 ≠ g10 := by omega
  have hn_6_10 : g6 ≠ g10 := by omega
  have hn_10_T : g10 ≠ b := hn_T_10.symm
  have hn_10_5 : g10 ≠ g5 := hn_5_10.symm
  have hn_10_6 : g10 ≠ g6 := hn_6_10.symm
  have hG10 : w.heap.size ≤ g10 := by omega
  clear hsz_ hl_T
  try clear hg10
  try clear hg6
  try clear hg5
  have hs_W1 : w.heap.size ≤ W1.heap.size := mB.size
  refine wpIn_only (wpIn_wide.2 ?_)
  replace mT := blk_drew mT
  replace m5 := blk_drew m5
  replace m6 := blk_drew m6
  replace m10 := blk_drew m10
  replace mB := below_drew1 mB
  have wq : wrap64 (s.nx * s.ny) = s.nx * s.ny := by unfold wrap64; omega
  refine start_ (n := 12) (S := fun w' => w'.cell? ⟨g5, 0, none⟩ = some (.pointer (some ⟨b, 0, none⟩)) ∧ w'.cell? ⟨b, 0, none⟩ = some (.int .i64 s.nx) ∧ w'.cell? ⟨b, 1, none⟩ = some (.int .i64 s.ny)) (ds := []) #[false, false, false, false, false, false, false, false, false, false, false, false] zq1 rfl rfl ⟨((blk_cell m5 0).trans rfl), ((blk_cell mT 0).trans rfl), ((blk_cell mT 1).trans rfl)⟩ (fun hHeld => ?_)
  generalize hWd : World.drew _ = Wx at mB mT m5 m6 m10 hHeld ⊢
  clear hWd
  refine ztz (i := 0) (N := some 17) zq1 hHeld ?_
  refine zpz (i := 1) (N := some 18) zq1 ?_
  refine zpz (i := 2) (N := some 19) zq1 ?_
  refine zpz (i := 3) (N := some 20) zq1 ?_
  refine ztz (i := 4) (N := some 21) zq1 hHeld ?_
  refine ztz (i := 5) (N := some 22) zq1 hHeld ?_
  refine zpz (i := 6) (N := some 23) zq1 ?_
  refine zpz (i := 7) (N := some 24) zq1 ?_
  refine zpz (i := 8) (N := some 25) zq1 ?_
  refine ztz (i := 9) (N := some 26) zq1 hHeld ?_
  refine zpz (i := 10) (N := some 27) zq1 ?_
  refine zpz (i := 11) (N := some 11) zq1 ?_
  refine done_ zq1 ?_
  clear wq hHeld
  refine onlyN_normal ?_
  have c5_0 := (blk_cell m5 0).trans rfl
  have cT3 := (blk_cell mT 3).trans rfl
  have cq : ∀ o_, (Wx.alloc o_).cell? ⟨g5, 0, none⟩ = some (.pointer (some ⟨b, 0, none⟩)) := fun o_ => (blk_cell (blk_alloc m5 o_) 0).trans rfl
  have cq3 : ∀ o_, (Wx.alloc o_).cell? ⟨b, 3, none⟩ = some (.int .i64 s.slot) := fun o_ => (blk_cell (blk_alloc mT o_) 3).trans rfl
  gi_wp2_with fail
  clear cq cq3 c5_0 cT3
  have hs_Wx : w.heap.size ≤ Wx.heap.size := mB.size
  have hl_T := blk_lt mT
  have hl_5 := blk_lt m5
  have hl_6 := blk_lt m6
  have hl_10 := blk_lt m10
  have m12 : Blk (Wx.alloc (.cells #[.bool true] 4)) (Wx.heap.size) #[.bool true] 4 := (by have h_ := blk_new Wx (.cells #[.bool true] 4); first | exact h_ | (simp only [World.size_alloc] at h_; exact h_))
  replace mT : Blk (Wx.alloc (.cells #[.bool true] 4)) b #[.int .i64 s.nx, .int .i64 s.ny, .int .i64 s.cell, .int .i64 s.slot, .int .i64 s.slots, .int .i64 s.layers, .int .i64 s.most, .slice A7 s.shores.length c7, .slice A8 s.currents.length c8, .int .i64 v.speed, .int .i64 v.dive, .int .i64 v.use.f0, .int .i64 v.use.f1, .int .i64 v.drift.f0, .int .i64 v.drift.f1, .int .i64 v.reserve] 110 := (blk_alloc mT _)
  replace m5 : Blk (Wx.alloc (.cells #[.bool true] 4)) g5 #[.pointer (some ⟨b, 0, none⟩)] 104 := (blk_alloc m5 _)
  replace m6 : Blk (Wx.alloc (.cells #[.bool true] 4)) g6 #[.int .i64 x.f0.f0, .int .i64 x.f0.f1, .int .i64 x.f1.f0, .int .i64 x.f1.f1] 31 := (blk_alloc m6 _)
  replace m10 : Blk (Wx.alloc (.cells #[.bool true] 4)) g10 #[.int .i64 0, .int .i64 0, .int .i64 0, .int .i64 0] 31 := (blk_alloc m10 _)
  replace mB : Below w.heap.size w (Wx.alloc (.cells #[.bool true] 4)) := (below_alloc mB _)
  have hsz_ : w.heap.size ≤ Wx.heap.size := hs_Wx
  generalize hW_ : (Wx.alloc (.cells #[.bool true] 4)) = W2 at mT m5 m6 m10 m12 mB ⊢
  clear hW_
  generalize hg12 : Wx.heap.size = g12 at m12 ⊢
  have hn_T_12 : b ≠ g12 := by omega
  have hn_5_12 : g5 ≠ g12 := by omega
  have hn_6_12 : g6 ≠ g12 := by omega
  have hn_10_12 : g10 ≠ g12 := by omega
  have hn_12_T : g12 ≠ b := hn_T_12.symm
  have hn_12_5 : g12 ≠ g5 := hn_5_12.symm
  have hn_12_6 : g12 ≠ g6 := hn_6_12.symm
  have hn_12_10 : g12 ≠ g10 := hn_10_12.symm
  have hG12 : w.heap.size ≤ g12 := by omega
  clear hsz_ hl_T hl_5 hl_6 hl_10
  try clear hg12
  have hs_W2 : w.heap.size ≤ W2.heap.size := mB.size
  refine wpIn_loop (fun a W => ∃ (q : Nat) (j : Int) (Ds : List Nat) (u_ : Nat → Value), a = { tmps := #[(u_ 0), (u_ 1), .int .i64 layer, (u_ 3), .int .i64 u, .pointer (some ⟨g5, 0, none⟩), .pointer (some ⟨g6, 0, none⟩), (u_ 7), (u_ 8), (u_ 9), .pointer (some ⟨g10, 0, none⟩), .int .i64 (s.nx * s.ny), .pointer (some ⟨g12, 0, none⟩), .int .i64 j, (u_ 14), (u_ 15), (u_ 16), (u_ 17), (u_ 18), (u_ 19), (u_ 20), (u_ 21), (u_ 22), (u_ 23), (u_ 24), (u_ 25), (u_ 26), (u_ 27), (u_ 28), (u_ 29), (u_ 30), (u_ 31), (u_ 32), (u_ 33), (u_ 34), (u_ 35), (u_ 36), (u_ 37), (u_ 38), (u_ 39), (u_ 40), (u_ 41), (u_ 42), (u_ 43), (u_ 44), (u_ 45), (u_ 46), (u_ 47), (u_ 48), (u_ 49), (u_ 50), (u_ 51), (u_ 52), (u_ 53), (u_ 54), (u_ 55), (u_ 56), (u_ 57), (u_ 58), (u_ 59), (u_ 60), (u_ 61), (u_ 62), (u_ 63), (u_ 64), (u_ 65), (u_ 66), (u_ 67), (u_ 68), (u_ 69), (u_ 70), (u_ 71), (u_ 72), (u_ 73), (u_ 74), (u_ 75), (u_ 76), (u_ 77), (u_ 78), (u_ 79), (u_ 80), (u_ 81), (u_ 82), (u_ 83), (u_ 84), (u_ 85), (u_ 86), (u_ 87), (u_ 88), (u_ 89), (u_ 90), (u_ 91)], defers := Ds.map mark } ∧ Hid (j = j0 + (q : Int)) ∧ q ≤ (j1 + 1 - j0).toNat ∧ Marks W w.heap.size Ds ∧ Blk W g5 #[.pointer (some ⟨b, 0, none⟩)] 104 ∧ Blk W g6 #[.int .i64 x.f0.f0, .int .i64 x.f0.f1, .int .i64 x.f1.f0, .int .i64 x.f1.f1] 31 ∧ Blk W g10 #[.int .i64 (outV (boxesL s x layer j0 q)).f0.f0, .int .i64 (outV (boxesL s x layer j0 q)).f0.f1, .int .i64 (outV (boxesL s x layer j0 q)).f1.f0, .int .i64 (outV (boxesL s x layer j0 q)).f1.f1] 31 ∧ Blk W g12 #[.bool (hullL (boxesL s x layer j0 q)).isNone] 4 ∧ Below w.heap.size w W) (fun a _ => (j1 + 1 - intOf (a.tmps.getD 13 undef)).toNat) ⟨0, j0, [], (fun k => (#[.pointer (some ⟨b, 0, none⟩), .agg #[.int .i64 x.f0.f0, .int .i64 x.f0.f1, .int .i64 x.f1.f0, .int .i64 x.f1.f1], .int .i64 layer, .int .i64 t, .int .i64 u, .pointer (some ⟨g5, 0, none⟩), .pointer (some ⟨g6, 0, none⟩), undef, undef, undef, .pointer (some ⟨g10, 0, none⟩), .int .i64 (s.nx * s.ny), .pointer (some ⟨g12, 0, none⟩), .int .i64 j0, undef, undef, undef, .pointer (some ⟨b, 0, none⟩), .pointer (some ⟨b, 0, none⟩), .pointer (some ⟨b, 0, none⟩), .pointer (some ⟨b, 0, none⟩), .int .i64 s.nx, .pointer (some ⟨b, 0, none⟩), .pointer (some ⟨b, 0, none⟩), .pointer (some ⟨b, 0, none⟩), .pointer (some ⟨b, 1, none⟩), .int .i64 s.ny, .int .i64 (wrap64 (s.nx * s.ny)), .int .i64 t, .pointer (some ⟨b, 0, none⟩), .pointer (some ⟨b, 0, none⟩), .pointer (some ⟨b, 0, none⟩), .pointer (some ⟨b, 3, none⟩), .int .i64 s.slot, .int .i64 j0, undef, undef, undef, undef, undef, undef, undef, undef, undef, undef, undef, undef, undef, undef, undef, undef, undef, undef, undef, undef, undef, undef, undef, undef, undef, undef, undef, undef, undef, undef, undef, undef, undef, undef, undef, undef, undef, undef, undef, undef, undef, undef, undef, undef, undef, undef, undef, undef, undef, undef, undef, undef, undef, undef, undef, undef, undef] : Array Value).getD k undef), rfl, Lib.hid (by omega), Nat.zero_le _, Marks.nil _ _, m5, m6, m10, m12, mB⟩ ?_
  clear m5 m6 m10 m12 mB mT
  rintro a_ W ⟨q, j, Ds, u_, rfl, HJ, hq, hM, m5, m6, m10, m12, mB⟩
  have hs_W : w.heap.size ≤ W.heap.size := mB.size
  obtain ⟨A7, c7, A8, c8, mT, _, _, hc8, hC8⟩ := hT.below mB
  have cT3 := (blk_cell mT 3).trans rfl
  have cT5 := (blk_cell mT 5).trans rfl
  have c5_0 := (blk_cell m5 0).trans rfl
  have c6_0 : ∀ o_, (W.alloc o_).cell? ⟨g6, 0, none⟩ = some (.int .i64 x.f0.f0) := fun o_ => (blk_cell (blk_alloc m6 o_) 0).trans rfl
  have c6_1 : ∀ o_, (W.alloc o_).cell? ⟨g6, 1, none⟩ = some (.int .i64 x.f0.f1) := fun o_ => (blk_cell (blk_alloc m6 o_) 1).trans rfl
  have c6_2 : ∀ o_, (W.alloc o_).cell? ⟨g6, 2, none⟩ = some (.int .i64 x.f1.f0) := fun o_ => (blk_cell (blk_alloc m6 o_) 2).trans rfl
  have c6_3 : ∀ o_, (W.alloc o_).cell? ⟨g6, 3, none⟩ = some (.int .i64 x.f1.f1) := fun o_ => (blk_cell (blk_alloc m6 o_) 3).trans rfl
  have c5_1 : ∀ o_, (W.alloc o_).cell? ⟨g5, 0, none⟩ = some (.pointer (some ⟨b, 0, none⟩)) := fun o_ => (blk_cell (blk_alloc m5 o_) 0).trans rfl
  have hjj : j0 ≤ j := by have := HJ.out; omega
  by_cases hlt : j ≤ j1
  case neg =>
    have hqe : q = (j1 + 1 - j0).toNat := by have := HJ.out; omega
    have HQ := Lib.hid hqe
    clear hqe c5_1 c6_0 c6_1 c6_2 c6_3
    have HRR := HR.out
    rw [← HQ.out] at HRR
    have HR2 := Lib.hid HRR
    clear HRR
    generalize (boxesL s x layer j0 q) = L at *
    have c10_0 := (blk_cell m10 0).trans rfl
    have f10_0 := blk_frozen m10 0
    have c10_1 := (blk_cell m10 1).trans rfl
    have f10_1 := blk_frozen m10 1
    have c10_2 := (blk_cell m10 2).trans rfl
    have f10_2 := blk_frozen m10 2
    have c10_3 := (blk_cell m10 3).trans rfl
    have f10_3 := blk_frozen m10 3
    skip
    gi_wp2
    exact leaves_marks (fun X => Blk X g10 #[.int .i64 (outV L).f0.f0, .int .i64 (outV L).f0.f1, .int .i64 (outV L).f1.f0, .int .i64 (outV L).f1.f1] 31 ∧ Below w.heap.size w X) (fun X D_ h hB hD => ⟨(World.putObj_heap_other (fun e => by have h1 := h.1; unfold Blk at h1; rw [e, hD] at h1; cases h1)).trans h.1, h.2.trans (belowK_b (w := w) (Nat.le_refl _) X D_ _ _ hB hD rfl rfl)⟩) (fun X h => ⟨_, results_cell_row rfl _ _ g10 31 #[.int .i64 (outV L).f0.f0, .int .i64 (outV L).f0.f1, .int .i64 (outV L).f1.f0, .int .i64 (outV L).f1.f1] (0, 0) _ rfl h.1 Try.underlying31 rfl zq1, by rw [HR2.out]; rfl, h.2⟩) Ds _ (Marks.set (Marks.set (Marks.set (Marks.set hM m10 (i := 0) _) (blk_put m10 0 (.int .i64 (outV L).f0.f0) rfl) (i := 1) _) (blk_put (blk_put m10 0 (.int .i64 (outV L).f0.f0) rfl) 1 (.int .i64 (outV L).f0.f1) rfl) (i := 2) _) (blk_put (blk_put (blk_put m10 0 (.int .i64 (outV L).f0.f0) rfl) 1 (.int .i64 (outV L).f0.f1) rfl) 2 (.int .i64 (outV L).f1.f0) rfl) (i := 3) _) ⟨(blk_put (blk_put (blk_put (blk_put m10 0 (.int .i64 (outV L).f0.f0) rfl) 1 (.int .i64 (outV L).f0.f1) rfl) 2 (.int .i64 (outV L).f1.f0) rfl) 3 (.int .i64 (outV L).f1.f1) rfl), (Below.setCell (p := ⟨g10, 3, none⟩) (Below.setCell (p := ⟨g10, 2, none⟩) (Below.setCell (p := ⟨g10, 1, none⟩) (Below.setCell (p := ⟨g10, 0, none⟩) mB hG10 _) hG10 _) hG10 _) hG10 _)⟩
  case pos =>
    skip
    have hq2 : q + 1 ≤ (j1 + 1 - j0).toNat := by have := HJ.out; omega
    have HJ2 : Hid (j + 1 = j0 + ((q + 1 : Nat) : Int)) := Lib.hid (by have := HJ.out; omega)
    have p1 := mul_in (show 0 ≤ j by omega) (show j ≤ 15 by omega) (show 0 ≤ s.layers by omega) hla.2
    have p2 := mul_in (show 0 ≤ j * s.layers + layer by omega) (show j * s.layers + layer ≤ 50 by omega) hxy.1 hxy.2
    gi_wp2_with fail
    refine ⟨trivial, (callsIn_wide.2 (touched_any _ _ _)).mono ?_⟩
    rintro e W_ ⟨rfl, rfl⟩
    gi_wp2_with fail
    clear cT3 cT5 c5_0 c5_1 c6_0 c6_1 c6_2 c6_3
    have hnx_ := hS.nx
    have hM0 : Marks (((W.alloc (.cells #[.int .i64 ((j * s.layers + layer) * (s.nx * s.ny))] 3)).alloc (.cells #[.pointer (some ⟨b, 0, none⟩)] 104)).alloc (.cells #[.int .i64 x.f0.f0, .int .i64 x.f0.f1, .int .i64 x.f1.f0, .int .i64 x.f1.f1] 31)) w.heap.size Ds := hM.below (below_alloc (below_alloc (below_alloc (Below.refl _ W) _) _) _)
    have hl_T := blk_lt mT
    have hl_5 := blk_lt m5
    have hl_6 := blk_lt m6
    have hl_10 := blk_lt m10
    have hl_12 := blk_lt m12
    have m14 : Blk (((W.alloc (.cells #[.int .i64 ((j * s.layers + layer) * (s.nx * s.ny))] 3)).alloc (.cells #[.pointer (some ⟨b, 0, none⟩)] 104)).alloc (.cells #[.int .i64 x.f0.f0, .int .i64 x.f0.f1, .int .i64 x.f1.f0, .int .i64 x.f1.f1] 31)) (W.heap.size) #[.int .i64 ((j * s.layers + layer) * (s.nx * s.ny))] 3 := (blk_alloc (blk_alloc (by have h_ := blk_new W (.cells #[.int .i64 ((j * s.layers + layer) * (s.nx * s.ny))] 3); first | exact h_ | (simp only [World.size_alloc] at h_; exact h_)) _) _)
    have mP : Blk (((W.alloc (.cells #[.int .i64 ((j * s.layers + layer) * (s.nx * s.ny))] 3)).alloc (.cells #[.pointer (some ⟨b, 0, none⟩)] 104)).alloc (.cells #[.int .i64 x.f0.f0, .int .i64 x.f0.f1, .int .i64 x.f1.f0, .int .i64 x.f1.f1] 31)) (W.heap.size + 1) #[.pointer (some ⟨b, 0, none⟩)] 104 := (blk_alloc (by have h_ := blk_new (W.alloc (.cells #[.int .i64 ((j * s.layers + layer) * (s.nx * s.ny))] 3)) (.cells #[.pointer (some ⟨b, 0, none⟩)] 104); first | exact h_ | (simp only [World.size_alloc] at h_; exact h_)) _)
    have mX : Blk (((W.alloc (.cells #[.int .i64 ((j * s.layers + layer) * (s.nx * s.ny))] 3)).alloc (.cells #[.pointer (some ⟨b, 0, none⟩)] 104)).alloc (.cells #[.int .i64 x.f0.f0, .int .i64 x.f0.f1, .int .i64 x.f1.f0, .int .i64 x.f1.f1] 31)) (W.heap.size + 1 + 1) #[.int .i64 x.f0.f0, .int .i64 x.f0.f1, .int .i64 x.f1.f0, .int .i64 x.f1.f1] 31 := (by have h_ := blk_new ((W.alloc (.cells #[.int .i64 ((j * s.layers + layer) * (s.nx * s.ny))] 3)).alloc (.cells #[.pointer (some ⟨b, 0, none⟩)] 104)) (.cells #[.int .i64 x.f0.f0, .int .i64 x.f0.f1, .int .i64 x.f1.f0, .int .i64 x.f1.f1] 31); first | exact h_ | (simp only [World.size_alloc] at h_; exact h_))
    replace mT : Blk (((W.alloc (.cells #[.int .i64 ((j * s.layers + layer) * (s.nx * s.ny))] 3)).alloc (.cells #[.pointer (some ⟨b, 0, none⟩)] 104)).alloc (.cells #[.int .i64 x.f0.f0, .int .i64 x.f0.f1, .int .i64 x.f1.f0, .int .i64 x.f1.f1] 31)) b #[.int .i64 s.nx, .int .i64 s.ny, .int .i64 s.cell, .int .i64 s.slot, .int .i64 s.slots, .int .i64 s.layers, .int .i64 s.most, .slice A7 s.shores.length c7, .slice A8 s.currents.length c8, .int .i64 v.speed, .int .i64 v.dive, .int .i64 v.use.f0, .int .i64 v.use.f1, .int .i64 v.drift.f0, .int .i64 v.drift.f1, .int .i64 v.reserve] 110 := (blk_alloc (blk_alloc (blk_alloc mT _) _) _)
    replace m5 : Blk (((W.alloc (.cells #[.int .i64 ((j * s.layers + layer) * (s.nx * s.ny))] 3)).alloc (.cells #[.pointer (some ⟨b, 0, none⟩)] 104)).alloc (.cells #[.int .i64 x.f0.f0, .int .i64 x.f0.f1, .int .i64 x.f1.f0, .int .i64 x.f1.f1] 31)) g5 #[.pointer (some ⟨b, 0, none⟩)] 104 := (blk_alloc (blk_alloc (blk_alloc m5 _) _) _)
    replace m6 : Blk (((W.alloc (.cells #[.int .i64 ((j * s.layers + layer) * (s.nx * s.ny))] 3)).alloc (.cells #[.pointer (some ⟨b, 0, none⟩)] 104)).alloc (.cells #[.int .i64 x.f0.f0, .int .i64 x.f0.f1, .int .i64 x.f1.f0, .int .i64 x.f1.f1] 31)) g6 #[.int .i64 x.f0.f0, .int .i64 x.f0.f1, .int .i64 x.f1.f0, .int .i64 x.f1.f1] 31 := (blk_alloc (blk_alloc (blk_alloc m6 _) _) _)
    replace m10 : Blk (((W.alloc (.cells #[.int .i64 ((j * s.layers + layer) * (s.nx * s.ny))] 3)).alloc (.cells #[.pointer (some ⟨b, 0, none⟩)] 104)).alloc (.cells #[.int .i64 x.f0.f0, .int .i64 x.f0.f1, .int .i64 x.f1.f0, .int .i64 x.f1.f1] 31)) g10 #[.int .i64 (outV (boxesL s x layer j0 q)).f0.f0, .int .i64 (outV (boxesL s x layer j0 q)).f0.f1, .int .i64 (outV (boxesL s x layer j0 q)).f1.f0, .int .i64 (outV (boxesL s x layer j0 q)).f1.f1] 31 := (blk_alloc (blk_alloc (blk_alloc m10 _) _) _)
    replace m12 : Blk (((W.alloc (.cells #[.int .i64 ((j * s.layers + layer) * (s.nx * s.ny))] 3)).alloc (.cells #[.pointer (some ⟨b, 0, none⟩)] 104)).alloc (.cells #[.int .i64 x.f0.f0, .int .i64 x.f0.f1, .int .i64 x.f1.f0, .int .i64 x.f1.f1] 31)) g12 #[.bool (hullL (boxesL s x layer j0 q)).isNone] 4 := (blk_alloc (blk_alloc (blk_alloc m12 _) _) _)
    replace mB : Below w.heap.size w (((W.alloc (.cells #[.int .i64 ((j * s.layers + layer) * (s.nx * s.ny))] 3)).alloc (.cells #[.pointer (some ⟨b, 0, none⟩)] 104)).alloc (.cells #[.int .i64 x.f0.f0, .int .i64 x.f0.f1, .int .i64 x.f1.f0, .int .i64 x.f1.f1] 31)) := (below_alloc (below_alloc (below_alloc mB _) _) _)
    have hsz_ : w.heap.size ≤ W.heap.size := hs_W
    generalize hW_ : (((W.alloc (.cells #[.int .i64 ((j * s.layers + layer) * (s.nx * s.ny))] 3)).alloc (.cells #[.pointer (some ⟨b, 0, none⟩)] 104)).alloc (.cells #[.int .i64 x.f0.f0, .int .i64 x.f0.f1, .int .i64 x.f1.f0, .int .i64 x.f1.f1] 31)) = W0 at mT m5 m6 m10 m12 m14 mP mX mB hM0 ⊢
    clear hW_
    generalize hg14 : W.heap.size = g14 at m14 mP mX ⊢
    have hn_T_14 : b ≠ g14 := by omega
    have hn_5_14 : g5 ≠ g14 := by omega
    have hn_6_14 : g6 ≠ g14 := by omega
    have hn_10_14 : g10 ≠ g14 := by omega
    have hn_12_14 : g12 ≠ g14 := by omega
    have hn_14_T : g14 ≠ b := hn_T_14.symm
    have hn_14_5 : g14 ≠ g5 := hn_5_14.symm
    have hn_14_6 : g14 ≠ g6 := hn_6_14.symm
    have hn_14_10 : g14 ≠ g10 := hn_10_14.symm
    have hn_14_12 : g14 ≠ g12 := hn_12_14.symm
    have hG14 : w.heap.size ≤ g14 := by omega
    generalize hgP : g14 + 1 = gP at mP mX ⊢
    have hn_T_P : b ≠ gP := by omega
    have hn_5_P : g5 ≠ gP := by omega
    have hn_6_P : g6 ≠ gP := by omega
    have hn_10_P : g10 ≠ gP := by omega
    have hn_12_P : g12 ≠ gP := by omega
    have hn_14_P : g14 ≠ gP := by omega
    have hn_P_T : gP ≠ b := hn_T_P.symm
    have hn_P_5 : gP ≠ g5 := hn_5_P.symm
    have hn_P_6 : gP ≠ g6 := hn_6_P.symm
    have hn_P_10 : gP ≠ g10 := hn_10_P.symm
    have hn_P_12 : gP ≠ g12 := hn_12_P.symm
    have hn_P_14 : gP ≠ g14 := hn_14_P.symm
    have hGP : w.heap.size ≤ gP := by omega
    generalize hgX : gP + 1 = gX at mX ⊢
    have hn_T_X : b ≠ gX := by omega
    have hn_5_X : g5 ≠ gX := by omega
    have hn_6_X : g6 ≠ gX := by omega
    have hn_10_X : g10 ≠ gX := by omega
    have hn_12_X : g12 ≠ gX := by omega
    have hn_14_X : g14 ≠ gX := by omega
    have hn_P_X : gP ≠ gX := by omega
    have hn_X_T : gX ≠ b := hn_T_X.symm
    have hn_X_5 : gX ≠ g5 := hn_5_X.symm
    have hn_X_6 : gX ≠ g6 := hn_6_X.symm
    have hn_X_10 : gX ≠ g10 := hn_10_X.symm
    have hn_X_12 : gX ≠ g12 := hn_12_X.symm
    have hn_X_14 : gX ≠ g14 := hn_14_X.symm
    have hn_X_P : gX ≠ gP := hn_P_X.symm
    have hGX : w.heap.size ≤ gX := by omega
    clear hsz_ hl_T hl_5 hl_6 hl_10 hl_12
    try clear hgX
    try clear hgP
    try clear hg14
    have hs_W0 : w.heap.size ≤ W0.heap.size := mB.size
    have hDs : ∀ D_ ∈ Ds, D_ < W0.heap.size := fun D_ h => (Array.getElem?_eq_some_iff.1 (hM0.2 D_ h).2).1
    have HN : Hid (g5 ≠ g10 ∧ g5 ≠ g12 ∧ g6 ≠ g10 ∧ g6 ≠ g12 ∧ g14 ≠ g10 ∧ g14 ≠ g12 ∧ g10 ≠ g12 ∧ g12 ≠ g10 ∧ gP ≠ g10 ∧ gX ≠ g10 ∧ gP ≠ g12 ∧ gX ≠ g12) := Lib.hid ⟨hn_5_10, hn_5_12, hn_6_10, hn_6_12, hn_14_10, hn_14_12, hn_10_12, hn_12_10, hn_P_10, hn_X_10, hn_P_12, hn_X_12⟩
    try clear hn_T_5
    try clear hn_T_6
    try clear hn_T_10
    try clear hn_T_12
    try clear hn_T_14
    try clear hn_T_P
    try clear hn_T_X
    try clear hn_5_T
    try clear hn_5_6
    try clear hn_5_10
    try clear hn_5_12
    try clear hn_5_14
    try clear hn_5_P
    try clear hn_5_X
    try clear hn_6_T
    try clear hn_6_5
    try clear hn_6_10
    try clear hn_6_12
    try clear hn_6_14
    try clear hn_6_P
    try clear hn_6_X
    try clear hn_10_T
    try clear hn_10_5
    try clear hn_10_6
    try clear hn_10_12
    try clear hn_10_14
    try clear hn_10_P
    try clear hn_10_X
    try clear hn_12_T
    try clear hn_12_5
    try clear hn_12_6
    try clear hn_12_10
    try clear hn_12_14
    try clear hn_12_P
    try clear hn_12_X
    try clear hn_14_T
    try clear hn_14_5
    try clear hn_14_6
    try clear hn_14_10
    try clear hn_14_12
    try clear hn_14_P
    try clear hn_14_X
    try clear hn_P_T
    try clear hn_P_5
    try clear hn_P_6
    try clear hn_P_10
    try clear hn_P_12
    try clear hn_P_14
    try clear hn_P_X
    try clear hn_X_T
    try clear hn_X_5
    try clear hn_X_6
    try clear hn_X_10
    try clear hn_X_12
    try clear hn_X_14
    try clear hn_X_P
    refine wpIn_rangeFunc_ownH rfl (by omega) (gf := 135) (lb := #[.pointer (some ⟨gP, 0, none⟩), .pointer (some ⟨gX, 0, none⟩)]) rfl trivial (enters_of Try.func135 zq1 rfl)
      (encs := fun c : CellN s => #[.int .i64 c.1]) (Kp := KpT w gP gX b x) (S := AllT s x) (Sp := PreT s x) (N := (touchL s x).length) (w0 := W0)
      (fun l J Jx X_ hW hJ _ hY h0 => touched1_in 5 (by omega) l gP gX w b s v x hT hS hx (KpT w gP gX b x) (fun A B h hE => ⟨hE.1.trans h.1, h.2.1 hE.2.1, h.2.2 hE.2.2⟩) J Jx hY (fun f X Y h hB => hJ f X Y none h ⟨hB.os, hB.tape, hB.output, hB.size, fun k hk _ => hB.block k hk⟩ (fun r e => by cases e)) X_ ⟨below_step mB hW, Blk.belowH mP hW, Blk.belowH mX hW⟩ h0) KpT.trans (KpT.put hs_W0 (blk_lt mP) (blk_lt mX)) (Below.refl _ _) (fun _ => rfl)
      (fun pre W => Blk W g5 #[.pointer (some ⟨b, 0, none⟩)] 104 ∧ Blk W g6 #[.int .i64 x.f0.f0, .int .i64 x.f0.f1, .int .i64 x.f1.f0, .int .i64 x.f1.f1] 31 ∧ Blk W g14 #[.int .i64 ((j * s.layers + layer) * (s.nx * s.ny))] 3 ∧ Blk W g10 #[.int .i64 (outV (boxesL s x layer j0 q ++ (pre.map fun c => curB s layer j c.1))).f0.f0, .int .i64 (outV (boxesL s x layer j0 q ++ (pre.map fun c => curB s layer j c.1))).f0.f1, .int .i64 (outV (boxesL s x layer j0 q ++ (pre.map fun c => curB s layer j c.1))).f1.f0, .int .i64 (outV (boxesL s x layer j0 q ++ (pre.map fun c => curB s layer j c.1))).f1.f1] 31 ∧ Blk W g12 #[.bool (hullL (boxesL s x layer j0 q ++ (pre.map fun c => curB s layer j c.1))).isNone] 4 ∧ Marks W w.heap.size Ds ∧ Below w.heap.size w W)
      (fun c pre W => False)
      (OwnFrom.and (blk_ownFrom _ _ (fun _ => _) _) (OwnFrom.and (blk_ownFrom _ _ (fun _ => _) _) (OwnFrom.and (blk_ownFrom _ _ (fun _ => _) _) (OwnFrom.and (blk_ownFrom _ _ (fun pre : List (CellN s) => #[.int .i64 (outV (boxesL s x layer j0 q ++ (pre.map fun c => curB s layer j c.1))).f0.f0, .int .i64 (outV (boxesL s x layer j0 q ++ (pre.map fun c => curB s layer j c.1))).f0.f1, .int .i64 (outV (boxesL s x layer j0 q ++ (pre.map fun c => curB s layer j c.1))).f1.f0, .int .i64 (outV (boxesL s x layer j0 q ++ (pre.map fun c => curB s layer j c.1))).f1.f1]) _) (OwnFrom.and (blk_ownFrom _ _ (fun pre : List (CellN s) => #[.bool (hullL (boxesL s x layer j0 q ++ (pre.map fun c => curB s layer j c.1))).isNone]) _) (OwnFrom.and (marks_ownFrom _ _ Ds hDs) (ownFrom_below (by omega) (by omega))))))))
      (fun c pre X Y row hs hg hr => hs)
      ⟨m5, m6, m14, by rw [List.map_nil, List.append_nil]; exact m10, by rw [List.map_nil, List.append_nil]; exact m12, hM0, mB⟩
      (fun c a' W => ∃ u_ : Nat → Value, a' = { tmps := #[(u_ 0), (u_ 1), (u_ 2), (u_ 3), (u_ 4), .pointer (some ⟨g5, 0, none⟩), (u_ 6), (u_ 7), (u_ 8), (u_ 9), .pointer (some ⟨g10, 0, none⟩), (u_ 11), .pointer (some ⟨g12, 0, none⟩), (u_ 13), .pointer (some ⟨g14, 0, none⟩), .int .i64 c.1, (u_ 16), (u_ 17), (u_ 18), (u_ 19), (u_ 20), (u_ 21), (u_ 22), (u_ 23), (u_ 24), (u_ 25), (u_ 26), (u_ 27), (u_ 28), (u_ 29), (u_ 30), (u_ 31), (u_ 32), (u_ 33), (u_ 34), (u_ 35), (u_ 36), (u_ 37), (u_ 38), (u_ 39), (u_ 40), (u_ 41), (u_ 42), (u_ 43), (u_ 44), (u_ 45), (u_ 46), (u_ 47), (u_ 48), (u_ 49), (u_ 50), (u_ 51), (u_ 52), (u_ 53), (u_ 54), (u_ 55), (u_ 56), (u_ 57), (u_ 58), (u_ 59), (u_ 60), (u_ 61), (u_ 62), (u_ 63), (u_ 64), (u_ 65), (u_ 66), (u_ 67), (u_ 68), (u_ 69), (u_ 70), (u_ 71), (u_ 72), (u_ 73), (u_ 74), (u_ 75), (u_ 76), (u_ 77), (u_ 78), (u_ 79), (u_ 80), (u_ 81), (u_ 82), (u_ 83), (u_ 84), (u_ 85), (u_ 86), (u_ 87), (u_ 88), (u_ 89), (u_ 90), (u_ 91)], defers := [] })
      (fun c a' s X Y row hs hg hr => hs) ?assign ?body ?done ?stop
    case assign =>
      rintro l pre c X_ K hI hK
      gi_wp2
      exact hK _ _ ((KeepsOthers.refl X_).from _) (KpT.below hI.2.2.2.2.2.2.size (Below.refl _ _)) hI ⟨(fun k => (#[(u_ 0), (u_ 1), .int .i64 layer, (u_ 3), .int .i64 u, .pointer (some ⟨g5, 0, none⟩), .pointer (some ⟨g6, 0, none⟩), (u_ 7), (u_ 8), (u_ 9), .pointer (some ⟨g10, 0, none⟩), .int .i64 (s.nx * s.ny), .pointer (some ⟨g12, 0, none⟩), .int .i64 j, .pointer (some ⟨g14, 0, none⟩), .int .i64 c.1, (u_ 16), (u_ 17), (u_ 18), (u_ 19), (u_ 20), (u_ 21), (u_ 22), (u_ 23), (u_ 24), (u_ 25), (u_ 26), (u_ 27), (u_ 28), (u_ 29), (u_ 30), (u_ 31), (u_ 32), (u_ 33), (u_ 34), .int .i64 j, .int .i64 u, .int .i64 (u - 1), .pointer (some ⟨b, 0, none⟩), .pointer (some ⟨b, 0, none⟩), .pointer (some ⟨b, 0, none⟩), .pointer (some ⟨b, 3, none⟩), .int .i64 s.slot, .int .i64 j1, .bool true, (u_ 45), (u_ 46), .int .i64 j, .pointer (some ⟨b, 0, none⟩), .pointer (some ⟨b, 0, none⟩), .pointer (some ⟨b, 0, none⟩), .pointer (some ⟨b, 5, none⟩), .int .i64 s.layers, .int .i64 (j * s.layers), .int .i64 layer, .int .i64 (j * s.layers + layer), .int .i64 (s.nx * s.ny), .int .i64 ((j * s.layers + layer) * (s.nx * s.ny)), .pointer (some ⟨b, 0, none⟩), .agg #[.int .i64 x.f0.f0, .int .i64 x.f0.f1, .int .i64 x.f1.f0, .int .i64 x.f1.f1], .func (.func 135) #[] #[.pointer (some ⟨gP, 0, none⟩), .pointer (some ⟨gX, 0, none⟩)], .int .i64 c.1, (u_ 62), (u_ 63), (u_ 64), (u_ 65), (u_ 66), (u_ 67), (u_ 68), (u_ 69), (u_ 70), (u_ 71), (u_ 72), (u_ 73), (u_ 74), (u_ 75), (u_ 76), (u_ 77), (u_ 78), (u_ 79), (u_ 80), (u_ 81), (u_ 82), (u_ 83), (u_ 84), (u_ 85), (u_ 86), (u_ 87), (u_ 88), (u_ 89), (u_ 90), (u_ 91)] : Array Value).getD k undef), rfl⟩
    case stop =>
      rintro D_ c pre X_ hD hp h hK
      exact h.elim
    case done =>
      rintro D_ xs X_ hD hxs ⟨m5, m6, m14, m10, m12, hM, mB⟩ hK
      have hL : boxesL s x layer j0 q ++ xs.map (fun c => curB s layer j c.1) = boxesL s x layer j0 (q + 1) := by rw [boxesL_succ]; unfold slotL; rw [← (show xs.map Subtype.val = touchL s x from hxs), List.map_map, ← HJ.out]; rfl
      rw [hL] at m10 m12
      clear hL
      have hM2 := hM.cons (fun h => absurd (hDs D_ h) (Nat.not_lt.2 hD)) (Nat.le_trans hs_W0 hD) hK
      gi_wp2
      skip
      exact ⟨⟨q + 1, j + 1, D_ :: Ds, (fun k => (#[(u_ 0), (u_ 1), .int .i64 layer, (u_ 3), .int .i64 u, .pointer (some ⟨g5, 0, none⟩), .pointer (some ⟨g6, 0, none⟩), (u_ 7), (u_ 8), (u_ 9), .pointer (some ⟨g10, 0, none⟩), .int .i64 (s.nx * s.ny), .pointer (some ⟨g12, 0, none⟩), .int .i64 (j + 1), .pointer (some ⟨g14, 0, none⟩), (u_ 15), (u_ 16), (u_ 17), (u_ 18), (u_ 19), (u_ 20), (u_ 21), (u_ 22), (u_ 23), (u_ 24), (u_ 25), (u_ 26), (u_ 27), (u_ 28), (u_ 29), (u_ 30), (u_ 31), (u_ 32), (u_ 33), (u_ 34), .int .i64 j, .int .i64 u, .int .i64 (u - 1), .pointer (some ⟨b, 0, none⟩), .pointer (some ⟨b, 0, none⟩), .pointer (some ⟨b, 0, none⟩), .pointer (some ⟨b, 3, none⟩), .int .i64 s.slot, .int .i64 j1, .bool true, .int .i64 j, .int .i64 (j + 1), .int .i64 j, .pointer (some ⟨b, 0, none⟩), .pointer (some ⟨b, 0, none⟩), .pointer (some ⟨b, 0, none⟩), .pointer (some ⟨b, 5, none⟩), .int .i64 s.layers, .int .i64 (j * s.layers), .int .i64 layer, .int .i64 (j * s.layers + layer), .int .i64 (s.nx * s.ny), .int .i64 ((j * s.layers + layer) * (s.nx * s.ny)), .pointer (some ⟨b, 0, none⟩), .agg #[.int .i64 x.f0.f0, .int .i64 x.f0.f1, .int .i64 x.f1.f0, .int .i64 x.f1.f1], .func (.func 135) #[] #[.pointer (some ⟨gP, 0, none⟩), .pointer (some ⟨gX, 0, none⟩)], (u_ 61), (u_ 62), (u_ 63), (u_ 64), (u_ 65), (u_ 66), (u_ 67), (u_ 68), (u_ 69), (u_ 70), (u_ 71), (u_ 72), (u_ 73), (u_ 74), (u_ 75), (u_ 76), (u_ 77), (u_ 78), (u_ 79), (u_ 80), (u_ 81), (u_ 82), (u_ 83), (u_ 84), (u_ 85), (u_ 86), (u_ 87), (u_ 88), (u_ 89), (u_ 90), (u_ 91)] : Array Value).getD k undef), rfl, HJ2, hq2, hM2, m5, m6, m10, m12, mB⟩, by simp [intOf]; omega⟩
    case body =>
      skip
      rintro l pre c a_ X_ hlW ⟨r, hr⟩ ⟨m5, m6, m14, m10, m12, hM, mB⟩ ⟨u_, rfl⟩ hlen
      have hXs : W0.heap.size ≤ X_.heap.size := Nat.le_trans hlW (Nat.le_of_lt (blk_lt hr))
      clear hr
      have hN : Below X_.heap.size X_ X_ := Below.refl _ _
      obtain ⟨A7, c7, A8, c8, mT, _, _, hc8, hC8⟩ := hT.below mB
      have hidx := index_in (q := j) (l := layer) (k := s.nx * s.ny) (c := c.1) (ll := s.slots) (kk := s.layers) (by omega) (by omega) hl0 hl1 c.2.1 c.2.2
      rw [← HCU.out] at hidx
      have HY : Hid (curB s layer j c.1 = ⟨(rd_T40 s.currents ((j * s.layers + layer) * (s.nx * s.ny) + c.1)).f0, (rd_T40 s.currents ((j * s.layers + layer) * (s.nx * s.ny) + c.1)).f1⟩) := Lib.hid rfl
      obtain ⟨hi0, hi1⟩ := hidx
      obtain ⟨ad, e_, hy0, hy1, hy2, hy3⟩ := at_T40 hC8 _ hi0 hi1
      cases e_
      clear hC8
      generalize rd_T40 s.currents ((j * s.layers + layer) * (s.nx * s.ny) + c.1) = y at *
      generalize (j * s.layers + layer) * (s.nx * s.ny) = R at *
      have wR : wrap64 (R + c.1) = R + c.1 := by unfold wrap64; have := c.2; omega
      have hm0 : hullL (boxesL s x layer j0 q ++ (pre.map fun c => curB s layer j c.1)) = hullL (boxesL s x layer j0 q ++ (pre.map fun c => curB s layer j c.1)) := rfl
      generalize hLL_ : (boxesL s x layer j0 q ++ (pre.map fun c => curB s layer j c.1)) = L at *
      have hLL := Lib.hid hLL_
      clear hm0 hLL_
      gi_wp2_with fail
      replace mT := blk_drew mT
      replace m5 := blk_drew m5
      replace m6 := blk_drew m6
      replace m10 := blk_drew m10
      replace m12 := blk_drew m12
      replace m14 := blk_drew m14
      replace mB := below_drew1 mB
      replace hy0 := ((below_drew1 (Below.refl X_.heap.size X_)).cell (World.block_lt_of_cell? X_ _ hy0)).trans hy0
      replace hy1 := ((below_drew1 (Below.refl X_.heap.size X_)).cell (World.block_lt_of_cell? X_ _ hy1)).trans hy1
      replace hy2 := ((below_drew1 (Below.refl X_.heap.size X_)).cell (World.block_lt_of_cell? X_ _ hy2)).trans hy2
      replace hy3 := ((below_drew1 (Below.refl X_.heap.size X_)).cell (World.block_lt_of_cell? X_ _ hy3)).trans hy3
      replace hM := hM.below (below_drew1 (Below.refl _ X_))
      replace hN := below_drew1 hN
      refine startIn_ (m := 25) (S := fun w' => w'.cell? ⟨g5, 0, none⟩ = some (.pointer (some ⟨b, 0, none⟩)) ∧ w'.cell? ⟨g14, 0, none⟩ = some (.int .i64 R) ∧ w'.cell? ⟨b, 8, none⟩ = some (.slice (some ad) s.currents.length c8) ∧ w'.cell? (ad.add ((R + c.1).toNat * 4)) = some (.int .i64 y.f0.f0) ∧ w'.cell? ⟨(ad.add ((R + c.1).toNat * 4)).block, (ad.add ((R + c.1).toNat * 4)).off + 1, none⟩ = some (.int .i64 y.f0.f1) ∧ w'.cell? ⟨(ad.add ((R + c.1).toNat * 4)).block, (ad.add ((R + c.1).toNat * 4)).off + 2, none⟩ = some (.int .i64 y.f1.f0) ∧ w'.cell? ⟨(ad.add ((R + c.1).toNat * 4)).block, (ad.add ((R + c.1).toNat * 4)).off + 3, none⟩ = some (.int .i64 y.f1.f1)) (ds := [24]) #[false, false, false, false, false, false, false, false, false, false, false, false, false, false, false, false, false, false, false, false, false, false, false, false, false] zq1 (letsOut_then (letsOut_inBlock letsOut_ownG)) zq1 rfl rfl ⟨((blk_cell m5 0).trans rfl), ((blk_cell m14 0).trans rfl), ((blk_cell mT 8).trans rfl), hy0, hy1, hy2, hy3⟩ (fun hHeld => ?_)
      generalize hWd : World.drew _ = Wx at mB mT m5 m6 m10 m12 m14 hM hN hy0 hy1 hy2 hy3 hHeld ⊢
      clear hWd
      refine zpz (i := 6) (N := some 68) zq1 ?_
      refine zpz (i := 17) (N := some 79) zq1 ?_
      refine ztz (i := 0) (N := some 62) zq1 hHeld ?_
      refine zpz (i := 1) (N := some 63) zq1 ?_
      refine zpz (i := 2) (N := some 64) zq1 ?_
      refine zpz (i := 3) (N := some 65) zq1 ?_
      refine ztz (i := 4) (N := some 66) zq1 hHeld ?_
      refine ztz (i := 5) (N := some 67) zq1 hHeld ?_
      refine zpz (i := 7) (N := some 69) zq1 ?_
      refine zpz (i := 8) (N := some 70) zq1 ?_
      refine zpz (i := 9) (N := some 71) zq1 ?_
      refine ztz (i := 10) (N := some 72) zq1 hHeld ?_
      refine ztz (i := 11) (N := some 73) zq1 hHeld ?_
      refine zpz (i := 12) (N := some 74) zq1 ?_
      refine zpz (i := 13) (N := some 75) zq1 ?_
      refine zpz (i := 14) (N := some 76) zq1 ?_
      refine ztz (i := 15) (N := some 77) zq1 hHeld ?_
      refine ztz (i := 16) (N := some 78) zq1 hHeld ?_
      refine zpz (i := 18) (N := some 80) zq1 ?_
      refine zpz (i := 19) (N := some 81) zq1 ?_
      refine zpz (i := 20) (N := some 82) zq1 ?_
      refine ztz (i := 21) (N := some 83) zq1 hHeld ?_
      refine zpz (i := 22) (N := some 84) zq1 ?_
      refine one_ (i := 23) (N := some 16) #[true, true, true, true, true, true, true, true, true, true, true, true, true, true, true, true, true, true, true, true, true, true, true, true, false] rfl rfl zq1 (by decide) (fun K hK => ?_)
      refine value_ (w1 := ?_) (v := ?_) (by rfl) rfl ?_ ?_
      rotate_left 2
      · go_simp
        constructor
        · rfl
        · rfl
      refine hK.out _ _ ⟨((blk_cell (blk_alloc m5 (.cells #[.int .i64 0, .int .i64 0, .int .i64 0, .int .i64 0] 31)) 0).trans rfl), ((blk_cell (blk_alloc m14 (.cells #[.int .i64 0, .int .i64 0, .int .i64 0, .int .i64 0] 31)) 0).trans rfl), ((blk_cell (blk_alloc mT (.cells #[.int .i64 0, .int .i64 0, .int .i64 0, .int .i64 0] 31)) 8).trans rfl), ((below_alloc (Below.refl Wx.heap.size Wx) (.cells #[.int .i64 0, .int .i64 0, .int .i64 0, .int .i64 0] 31)).cell (World.block_lt_of_cell? Wx _ hy0)).trans hy0, ((below_alloc (Below.refl Wx.heap.size Wx) (.cells #[.int .i64 0, .int .i64 0, .int .i64 0, .int .i64 0] 31)).cell (World.block_lt_of_cell? Wx _ hy1)).trans hy1, ((below_alloc (Below.refl Wx.heap.size Wx) (.cells #[.int .i64 0, .int .i64 0, .int .i64 0, .int .i64 0] 31)).cell (World.block_lt_of_cell? Wx _ hy2)).trans hy2, ((below_alloc (Below.refl Wx.heap.size Wx) (.cells #[.int .i64 0, .int .i64 0, .int .i64 0, .int .i64 0] 31)).cell (World.block_lt_of_cell? Wx _ hy3)).trans hy3⟩ (fun hHeld => ?_)
      clear hK K
      refine norm_ zq21 ?_
      refine last_ (i := 24) (N := none) #[true, true, true, true, true, true, true, true, true, true, true, true, true, true, true, true, true, true, true, true, true, true, true, true, true] rfl rfl zq1 (by decide) (fun K hK => ?_)
      have hq_ := blk_new Wx (.cells #[.int .i64 0, .int .i64 0, .int .i64 0, .int .i64 0] 31)
      have hf0_ := blk_frozen hq_ 0
      have hf1_ := blk_frozen hq_ 1
      have hf2_ := blk_frozen hq_ 2
      have hf3_ := blk_frozen hq_ 3
      have hc0_ := (blk_cell hq_ 0).trans rfl
      have hc1_ := (blk_cell hq_ 1).trans rfl
      have hc2_ := (blk_cell hq_ 2).trans rfl
      have hc3_ := (blk_cell hq_ 3).trans rfl
      refine skip_ (w1 := ?_) (by rfl) rfl ?_ ?_
      rotate_left
      · go_simp
        rfl
      refine hK.out _ _ ?_
      clear hK K
      refine done_ zq1 ?_
      try clear hHeld
      skip
      clear hy0 hy1 hy2 hy3 wR
      have hs_Wx : w.heap.size ≤ Wx.heap.size := mB.size
      have hG16W : W0.heap.size ≤ Wx.heap.size := Nat.le_trans hXs hN.size
      replace hM := hM.below (below_alloc (Below.refl _ Wx) (.cells #[.int .i64 y.f0.f0, .int .i64 y.f0.f1, .int .i64 y.f1.f0, .int .i64 y.f1.f1] 31))
      replace hN := below_step hN (below_alloc (Below.refl _ Wx) (.cells #[.int .i64 y.f0.f0, .int .i64 y.f0.f1, .int .i64 y.f1.f0, .int .i64 y.f1.f1] 31))
      have hl_T := blk_lt mT
      have hl_5 := blk_lt m5
      have hl_6 := blk_lt m6
      have hl_10 := blk_lt m10
      have hl_12 := blk_lt m12
      have hl_14 := blk_lt m14
      have m16 : Blk (Wx.alloc (.cells #[.int .i64 y.f0.f0, .int .i64 y.f0.f1, .int .i64 y.f1.f0, .int .i64 y.f1.f1] 31)) (Wx.heap.size) #[.int .i64 y.f0.f0, .int .i64 y.f0.f1, .int .i64 y.f1.f0, .int .i64 y.f1.f1] 31 := (by have h_ := blk_new Wx (.cells #[.int .i64 y.f0.f0, .int .i64 y.f0.f1, .int .i64 y.f1.f0, .int .i64 y.f1.f1] 31); first | exact h_ | (simp only [World.size_alloc] at h_; exact h_))
      replace mT : Blk (Wx.alloc (.cells #[.int .i64 y.f0.f0, .int .i64 y.f0.f1, .int .i64 y.f1.f0, .int .i64 y.f1.f1] 31)) b #[.int .i64 s.nx, .int .i64 s.ny, .int .i64 s.cell, .int .i64 s.slot, .int .i64 s.slots, .int .i64 s.layers, .int .i64 s.most, .slice A7 s.shores.length c7, .slice (some ad) s.currents.length c8, .int .i64 v.speed, .int .i64 v.dive, .int .i64 v.use.f0, .int .i64 v.use.f1, .int .i64 v.drift.f0, .int .i64 v.drift.f1, .int .i64 v.reserve] 110 := (blk_alloc mT _)
      replace m5 : Blk (Wx.alloc (.cells #[.int .i64 y.f0.f0, .int .i64 y.f0.f1, .int .i64 y.f1.f0, .int .i64 y.f1.f1] 31)) g5 #[.pointer (some ⟨b, 0, none⟩)] 104 := (blk_alloc m5 _)
      replace m6 : Blk (Wx.alloc (.cells #[.int .i64 y.f0.f0, .int .i64 y.f0.f1, .int .i64 y.f1.f0, .int .i64 y.f1.f1] 31)) g6 #[.int .i64 x.f0.f0, .int .i64 x.f0.f1, .int .i64 x.f1.f0, .int .i64 x.f1.f1] 31 := (blk_alloc m6 _)
      replace m10 : Blk (Wx.alloc (.cells #[.int .i64 y.f0.f0, .int .i64 y.f0.f1, .int .i64 y.f1.f0, .int .i64 y.f1.f1] 31)) g10 #[.int .i64 (outV L).f0.f0, .int .i64 (outV L).f0.f1, .int .i64 (outV L).f1.f0, .int .i64 (outV L).f1.f1] 31 := (blk_alloc m10 _)
      replace m12 : Blk (Wx.alloc (.cells #[.int .i64 y.f0.f0, .int .i64 y.f0.f1, .int .i64 y.f1.f0, .int .i64 y.f1.f1] 31)) g12 #[.bool (hullL L).isNone] 4 := (blk_alloc m12 _)
      replace m14 : Blk (Wx.alloc (.cells #[.int .i64 y.f0.f0, .int .i64 y.f0.f1, .int .i64 y.f1.f0, .int .i64 y.f1.f1] 31)) g14 #[.int .i64 R] 3 := (blk_alloc m14 _)
      replace mB : Below w.heap.size w (Wx.alloc (.cells #[.int .i64 y.f0.f0, .int .i64 y.f0.f1, .int .i64 y.f1.f0, .int .i64 y.f1.f1] 31)) := (below_alloc mB _)
      have hsz_ : w.heap.size ≤ Wx.heap.size := hs_Wx
      generalize hW_ : (Wx.alloc (.cells #[.int .i64 y.f0.f0, .int .i64 y.f0.f1, .int .i64 y.f1.f0, .int .i64 y.f1.f1] 31)) = W3 at mT m5 m6 m10 m12 m14 m16 mB hM hN ⊢
      clear hW_
      generalize hg16 : Wx.heap.size = g16 at m16 hG16W ⊢
      have hn_T_16 : b ≠ g16 := by omega
      have hn_5_16 : g5 ≠ g16 := by omega
      have hn_6_16 : g6 ≠ g16 := by omega
      have hn_10_16 : g10 ≠ g16 := by omega
      have hn_12_16 : g12 ≠ g16 := by omega
      have hn_14_16 : g14 ≠ g16 := by omega
      have hn_16_T : g16 ≠ b := hn_T_16.symm
      have hn_16_5 : g16 ≠ g5 := hn_5_16.symm
      have hn_16_6 : g16 ≠ g6 := hn_6_16.symm
      have hn_16_10 : g16 ≠ g10 := hn_10_16.symm
      have hn_16_12 : g16 ≠ g12 := hn_12_16.symm
      have hn_16_14 : g16 ≠ g14 := hn_14_16.symm
      have hG16 : w.heap.size ≤ g16 := by omega
      clear hsz_ hl_T hl_5 hl_6 hl_10 hl_12 hl_14
      try clear hg16
      have hs_W3 : w.heap.size ≤ W3.heap.size := mB.size
      have hNS := HN.out
      obtain ⟨_, _, _, _, _, _, hn_10_12, hn_12_10, _⟩ := hNS
      have HN2 : Hid (g5 ≠ g16 ∧ g6 ≠ g16 ∧ g14 ≠ g16) := Lib.hid ⟨hn_5_16, hn_6_16, hn_14_16⟩
      try clear hn_T_16 hn_16_T
      try clear hn_5_16 hn_16_5
      try clear hn_6_16 hn_16_6
      try clear hn_14_16 hn_16_14
      have hd_ : 1 ≤ 6 - 1 - 1 := by decide
      have hmx : Try.prog.follows .mixedOrders = true := by kernel_rfl
      cases hO : hullL L with
      | none =>
        rw [hO] at m12
        have HO := Lib.hid hO
        clear hO
        obtain ⟨c16_0, c16_1, c16_2, c16_3⟩ := zcs4 m16
        obtain ⟨c10_0, c10_1, c10_2, c10_3⟩ := zcs4 m10
        have c12_0 := (blk_cell m12 0).trans rfl
        obtain ⟨f10_0, f10_1, f10_2, f10_3⟩ := zfs4 m10
        have f12_0 := blk_frozen m12 0
        skip
        gi_wp2
        clear hn_10_12 hn_12_10
        obtain ⟨hn_5_10, hn_5_12, hn_6_10, hn_6_12, hn_14_10, hn_14_12, hn_10_12, hn_12_10, hn_P_10, hn_X_10, hn_P_12, hn_X_12⟩ := HN.out
        obtain ⟨hn_5_16, hn_6_16, hn_14_16⟩ := HN2.out
        have hE : curB s layer j c.1 = ⟨y.f0, y.f1⟩ := HY.out
        have hmap : boxesL s x layer j0 q ++ List.map (fun c => curB s layer j c.1) (pre ++ [c]) = L ++ [(⟨y.f0, y.f1⟩ : S31)] := by rw [List.map_append, List.map_singleton, ← List.append_assoc, hLL.out, hE]
        refine ⟨(keepsFrom_below hN).trans ((((((KeepsOthers.setCell _ _ _).trans (KeepsOthers.setCell _ _ _)).trans (KeepsOthers.setCell _ _ _)).trans (KeepsOthers.setCell _ _ _)).trans (KeepsOthers.setCell _ _ _)).from _), (KpT.set (p := ⟨g12, 0, none⟩) (KpT.set (p := ⟨g10, 3, none⟩) (KpT.set (p := ⟨g10, 2, none⟩) (KpT.set (p := ⟨g10, 1, none⟩) (KpT.set (p := ⟨g10, 0, none⟩) (KpT.below (Nat.le_trans hs_W0 hXs) hN) hG10 hn_P_10 hn_X_10 _) hG10 hn_P_10 hn_X_10 _) hG10 hn_P_10 hn_X_10 _) hG10 hn_P_10 hn_X_10 _) hG12 hn_P_12 hn_X_12 _), ?_⟩
        dsimp only
        rw [hmap]
        unfold outV
        rw [outV_snoc_none HO.out]
        exact ⟨(blk_far (p := ⟨g12, 0, none⟩) (blk_far (p := ⟨g10, 3, none⟩) (blk_far (p := ⟨g10, 2, none⟩) (blk_far (p := ⟨g10, 1, none⟩) (blk_far (p := ⟨g10, 0, none⟩) m5 hn_5_10 _) hn_5_10 _) hn_5_10 _) hn_5_10 _) hn_5_12 _), (blk_far (p := ⟨g12, 0, none⟩) (blk_far (p := ⟨g10, 3, none⟩) (blk_far (p := ⟨g10, 2, none⟩) (blk_far (p := ⟨g10, 1, none⟩) (blk_far (p := ⟨g10, 0, none⟩) m6 hn_6_10 _) hn_6_10 _) hn_6_10 _) hn_6_10 _) hn_6_12 _), (blk_far (p := ⟨g12, 0, none⟩) (blk_far (p := ⟨g10, 3, none⟩) (blk_far (p := ⟨g10, 2, none⟩) (blk_far (p := ⟨g10, 1, none⟩) (blk_far (p := ⟨g10, 0, none⟩) m14 hn_14_10 _) hn_14_10 _) hn_14_10 _) hn_14_10 _) hn_14_12 _), (blk_far (p := ⟨g12, 0, none⟩) (blk_put (blk_put (blk_put (blk_put m10 0 (.int .i64 y.f0.f0) rfl) 1 (.int .i64 y.f0.f1) rfl) 2 (.int .i64 y.f1.f0) rfl) 3 (.int .i64 y.f1.f1) rfl) hn_10_12 _), (blk_put (blk_far (p := ⟨g10, 3, none⟩) (blk_far (p := ⟨g10, 2, none⟩) (blk_far (p := ⟨g10, 1, none⟩) (blk_far (p := ⟨g10, 0, none⟩) m12 hn_12_10 _) hn_12_10 _) hn_12_10 _) hn_12_10 _) 0 (.bool false) rfl), (Marks.set (Marks.set (Marks.set (Marks.set (Marks.set hM m10 (i := 0) _) (blk_put m10 0 (.int .i64 y.f0.f0) rfl) (i := 1) _) (blk_put (blk_put m10 0 (.int .i64 y.f0.f0) rfl) 1 (.int .i64 y.f0.f1) rfl) (i := 2) _) (blk_put (blk_put (blk_put m10 0 (.int .i64 y.f0.f0) rfl) 1 (.int .i64 y.f0.f1) rfl) 2 (.int .i64 y.f1.f0) rfl) (i := 3) _) (blk_far (p := ⟨g10, 3, none⟩) (blk_far (p := ⟨g10, 2, none⟩) (blk_far (p := ⟨g10, 1, none⟩) (blk_far (p := ⟨g10, 0, none⟩) m12 hn_12_10 _) hn_12_10 _) hn_12_10 _) hn_12_10 _) (i := 0) _), (Below.setCell (p := ⟨g12, 0, none⟩) (Below.setCell (p := ⟨g10, 3, none⟩) (Below.setCell (p := ⟨g10, 2, none⟩) (Below.setCell (p := ⟨g10, 1, none⟩) (Below.setCell (p := ⟨g10, 0, none⟩) mB hG10 _) hG10 _) hG10 _) hG10 _) hG12 _)⟩
      | some z =>
        have hz_ : outV L = z := by unfold outV; rw [hO]; rfl
        rw [hO] at m12
        rw [hz_] at m10
        have HO := Lib.hid hO
        clear hO hz_
        obtain ⟨c16_0, c16_1, c16_2, c16_3⟩ := zcs4 m16
        obtain ⟨c10_0, c10_1, c10_2, c10_3⟩ := zcs4 m10
        have c12_0 := (blk_cell m12 0).trans rfl
        gi_wp2_with fail
        clear c16_0
        clear c16_1
        clear c16_2
        clear c16_3
        clear c10_0
        clear c10_1
        clear c10_2
        clear c10_3
        clear c12_0
        have hcon := hull_any z ⟨y.f0, y.f1⟩ W3
        refine ⟨trivial, (CallsIn.inRound l (callsIn_wide.2 hcon)).mono ?_⟩
        clear hcon
        rintro e W4 ⟨rfl, hb⟩
        generalize hH : hullB z ⟨y.f0, y.f1⟩ = h_ at *
        have HH := Lib.hid hH
        clear hH
        replace hM := hM.below hb
        replace hN := below_step hN hb
        replace mT := blk_below mT hb
        replace m5 := blk_below m5 hb
        replace m6 := blk_below m6 hb
        replace m10 := blk_below m10 hb
        replace m12 := blk_below m12 hb
        replace m14 := blk_below m14 hb
        replace m16 := blk_below m16 hb
        replace mB := below_step mB hb
        clear hb
        have hs_W4 : w.heap.size ≤ W4.heap.size := mB.size
        obtain ⟨c16_0, c16_1, c16_2, c16_3⟩ := zcs4 m16
        obtain ⟨c10_0, c10_1, c10_2, c10_3⟩ := zcs4 m10
        have c12_0 := (blk_cell m12 0).trans rfl
        obtain ⟨f16_0, f16_1, f16_2, f16_3⟩ := zfs4 m16
        obtain ⟨f10_0, f10_1, f10_2, f10_3⟩ := zfs4 m10
        have f12_0 := blk_frozen m12 0
        skip
        gi_wp2
        clear hn_10_12 hn_12_10
        obtain ⟨hn_5_10, hn_5_12, hn_6_10, hn_6_12, hn_14_10, hn_14_12, hn_10_12, hn_12_10, hn_P_10, hn_X_10, hn_P_12, hn_X_12⟩ := HN.out
        obtain ⟨hn_5_16, hn_6_16, hn_14_16⟩ := HN2.out
        have hE : curB s layer j c.1 = ⟨y.f0, y.f1⟩ := HY.out
        have hmap : boxesL s x layer j0 q ++ List.map (fun c => curB s layer j c.1) (pre ++ [c]) = L ++ [(⟨y.f0, y.f1⟩ : S31)] := by rw [List.map_append, List.map_singleton, ← List.append_assoc, hLL.out, hE]
        refine ⟨(keepsFrom_below hN).trans ((((((((((KeepsOthers.setCell _ _ _).trans (KeepsOthers.setCell _ _ _)).trans (KeepsOthers.setCell _ _ _)).trans (KeepsOthers.setCell _ _ _)).trans (KeepsOthers.setCell _ _ _)).trans (KeepsOthers.setCell _ _ _)).trans (KeepsOthers.setCell _ _ _)).trans (KeepsOthers.setCell _ _ _)).trans (KeepsOthers.setCell _ _ _)).from _), (KpT.set (p := ⟨g12, 0, none⟩) (KpT.set (p := ⟨g10, 3, none⟩) (KpT.set (p := ⟨g10, 2, none⟩) (KpT.set (p := ⟨g10, 1, none⟩) (KpT.set (p := ⟨g10, 0, none⟩) (KpT.set (p := ⟨g16, 3, none⟩) (KpT.set (p := ⟨g16, 2, none⟩) (KpT.set (p := ⟨g16, 1, none⟩) (KpT.set (p := ⟨g16, 0, none⟩) (KpT.below (Nat.le_trans hs_W0 hXs) hN) hG16 (Nat.ne_of_lt (Nat.lt_of_lt_of_le (blk_lt mP) hG16W)) (Nat.ne_of_lt (Nat.lt_of_lt_of_le (blk_lt mX) hG16W)) _) hG16 (Nat.ne_of_lt (Nat.lt_of_lt_of_le (blk_lt mP) hG16W)) (Nat.ne_of_lt (Nat.lt_of_lt_of_le (blk_lt mX) hG16W)) _) hG16 (Nat.ne_of_lt (Nat.lt_of_lt_of_le (blk_lt mP) hG16W)) (Nat.ne_of_lt (Nat.lt_of_lt_of_le (blk_lt mX) hG16W)) _) hG16 (Nat.ne_of_lt (Nat.lt_of_lt_of_le (blk_lt mP) hG16W)) (Nat.ne_of_lt (Nat.lt_of_lt_of_le (blk_lt mX) hG16W)) _) hG10 hn_P_10 hn_X_10 _) hG10 hn_P_10 hn_X_10 _) hG10 hn_P_10 hn_X_10 _) hG10 hn_P_10 hn_X_10 _) hG12 hn_P_12 hn_X_12 _), ?_⟩
        dsimp only
        rw [hmap]
        unfold outV
        rw [outV_snoc_some HO.out]
        rw [HH.out]
        exact ⟨(blk_far (p := ⟨g12, 0, none⟩) (blk_far (p := ⟨g10, 3, none⟩) (blk_far (p := ⟨g10, 2, none⟩) (blk_far (p := ⟨g10, 1, none⟩) (blk_far (p := ⟨g10, 0, none⟩) (blk_far (p := ⟨g16, 3, none⟩) (blk_far (p := ⟨g16, 2, none⟩) (blk_far (p := ⟨g16, 1, none⟩) (blk_far (p := ⟨g16, 0, none⟩) m5 hn_5_16 _) hn_5_16 _) hn_5_16 _) hn_5_16 _) hn_5_10 _) hn_5_10 _) hn_5_10 _) hn_5_10 _) hn_5_12 _), (blk_far (p := ⟨g12, 0, none⟩) (blk_far (p := ⟨g10, 3, none⟩) (blk_far (p := ⟨g10, 2, none⟩) (blk_far (p := ⟨g10, 1, none⟩) (blk_far (p := ⟨g10, 0, none⟩) (blk_far (p := ⟨g16, 3, none⟩) (blk_far (p := ⟨g16, 2, none⟩) (blk_far (p := ⟨g16, 1, none⟩) (blk_far (p := ⟨g16, 0, none⟩) m6 hn_6_16 _) hn_6_16 _) hn_6_16 _) hn_6_16 _) hn_6_10 _) hn_6_10 _) hn_6_10 _) hn_6_10 _) hn_6_12 _), (blk_far (p := ⟨g12, 0, none⟩) (blk_far (p := ⟨g10, 3, none⟩) (blk_far (p := ⟨g10, 2, none⟩) (blk_far (p := ⟨g10, 1, none⟩) (blk_far (p := ⟨g10, 0, none⟩) (blk_far (p := ⟨g16, 3, none⟩) (blk_far (p := ⟨g16, 2, none⟩) (blk_far (p := ⟨g16, 1, none⟩) (blk_far (p := ⟨g16, 0, none⟩) m14 hn_14_16 _) hn_14_16 _) hn_14_16 _) hn_14_16 _) hn_14_10 _) hn_14_10 _) hn_14_10 _) hn_14_10 _) hn_14_12 _), (blk_far (p := ⟨g12, 0, none⟩) (blk_put (blk_put (blk_put (blk_put (blk_far (p := ⟨g16, 3, none⟩) (blk_far (p := ⟨g16, 2, none⟩) (blk_far (p := ⟨g16, 1, none⟩) (blk_far (p := ⟨g16, 0, none⟩) m10 hn_10_16 _) hn_10_16 _) hn_10_16 _) hn_10_16 _) 0 (.int .i64 h_.f0.f0) rfl) 1 (.int .i64 h_.f0.f1) rfl) 2 (.int .i64 h_.f1.f0) rfl) 3 (.int .i64 h_.f1.f1) rfl) hn_10_12 _), (blk_put (blk_far (p := ⟨g10, 3, none⟩) (blk_far (p := ⟨g10, 2, none⟩) (blk_far (p := ⟨g10, 1, none⟩) (blk_far (p := ⟨g10, 0, none⟩) (blk_far (p := ⟨g16, 3, none⟩) (blk_far (p := ⟨g16, 2, none⟩) (blk_far (p := ⟨g16, 1, none⟩) (blk_far (p := ⟨g16, 0, none⟩) m12 hn_12_16 _) hn_12_16 _) hn_12_16 _) hn_12_16 _) hn_12_10 _) hn_12_10 _) hn_12_10 _) hn_12_10 _) 0 (.bool false) rfl), (Marks.set (Marks.set (Marks.set (Marks.set (Marks.set (Marks.set (Marks.set (Marks.set (Marks.set hM m16 (i := 0) _) (blk_put m16 0 (.int .i64 h_.f0.f0) rfl) (i := 1) _) (blk_put (blk_put m16 0 (.int .i64 h_.f0.f0) rfl) 1 (.int .i64 h_.f0.f1) rfl) (i := 2) _) (blk_put (blk_put (blk_put m16 0 (.int .i64 h_.f0.f0) rfl) 1 (.int .i64 h_.f0.f1) rfl) 2 (.int .i64 h_.f1.f0) rfl) (i := 3) _) (blk_far (p := ⟨g16, 3, none⟩) (blk_far (p := ⟨g16, 2, none⟩) (blk_far (p := ⟨g16, 1, none⟩) (blk_far (p := ⟨g16, 0, none⟩) m10 hn_10_16 _) hn_10_16 _) hn_10_16 _) hn_10_16 _) (i := 0) _) (blk_put (blk_far (p := ⟨g16, 3, none⟩) (blk_far (p := ⟨g16, 2, none⟩) (blk_far (p := ⟨g16, 1, none⟩) (blk_far (p := ⟨g16, 0, none⟩) m10 hn_10_16 _) hn_10_16 _) hn_10_16 _) hn_10_16 _) 0 (.int .i64 h_.f0.f0) rfl) (i := 1) _) (blk_put (blk_put (blk_far (p := ⟨g16, 3, none⟩) (blk_far (p := ⟨g16, 2, none⟩) (blk_far (p := ⟨g16, 1, none⟩) (blk_far (p := ⟨g16, 0, none⟩) m10 hn_10_16 _) hn_10_16 _) hn_10_16 _) hn_10_16 _) 0 (.int .i64 h_.f0.f0) rfl) 1 (.int .i64 h_.f0.f1) rfl) (i := 2) _) (blk_put (blk_put (blk_put (blk_far (p := ⟨g16, 3, none⟩) (blk_far (p := ⟨g16, 2, none⟩) (blk_far (p := ⟨g16, 1, none⟩) (blk_far (p := ⟨g16, 0, none⟩) m10 hn_10_16 _) hn_10_16 _) hn_10_16 _) hn_10_16 _) 0 (.int .i64 h_.f0.f0) rfl) 1 (.int .i64 h_.f0.f1) rfl) 2 (.int .i64 h_.f1.f0) rfl) (i := 3) _) (blk_far (p := ⟨g10, 3, none⟩) (blk_far (p := ⟨g10, 2, none⟩) (blk_far (p := ⟨g10, 1, none⟩) (blk_far (p := ⟨g10, 0, none⟩) (blk_far (p := ⟨g16, 3, none⟩) (blk_far (p := ⟨g16, 2, none⟩) (blk_far (p := ⟨g16, 1, none⟩) (blk_far (p := ⟨g16, 0, none⟩) m12 hn_12_16 _) hn_12_16 _) hn_12_16 _) hn_12_16 _) hn_12_10 _) hn_12_10 _) hn_12_10 _) hn_12_10 _) (i := 0) _), (Below.setCell (p := ⟨g12, 0, none⟩) (Below.setCell (p := ⟨g10, 3, none⟩) (Below.setCell (p := ⟨g10, 2, none⟩) (Below.setCell (p := ⟨g10, 1, none⟩) (Below.setCell (p := ⟨g10, 0, none⟩) (Below.setCell (p := ⟨g16, 3, none⟩) (Below.setCell (p := ⟨g16, 2, none⟩) (Below.setCell (p := ⟨g16, 1, none⟩) (Below.setCell (p := ⟨g16, 0, none⟩) mB hG16 _) hG16 _) hG16 _) hG16 _) hG10 _) hG10 _) hG10 _) hG10 _) hG12 _)⟩
end Go.Proofs.Ytmhaiihjfgfaoaa.Gl
end
section
/- The current at a box is bounded. -/
namespace Go.Proofs.Ytmhaiihjfgfaoaa.Gl
open Go.RowKit Go.Shelf Go.Proofs.YtmhaiihjfgfaoaaW.PrintWords Go.Proofs.YtmhaiihjfgfaoaaW.PrintLast Go.Proofs.YtmhaiihjfgfaoaaW.PrintMore Go.Proofs.Ytmhaiihjfgfaoaa.Pr Go.Proofs.YtmhaiihjfgfaoaaW.Round
set_option linter.unusedVariables false
set_option linter.unusedSimpArgs false
attribute [local go_sem] max2_int min2_int max_two min_two max_four
/-- The ends of a current are not too large. -/
def BB (y : S31) : Prop := (-5000 ≤ y.f0.f0 ∧ y.f0.f0 ≤ 5000) ∧ (-5000 ≤ y.f0.f1 ∧ y.f0.f1 ≤ 5000) ∧ (-5000 ≤ y.f1.f0 ∧ y.f1.f0 ≤ 5000) ∧ (-5000 ≤ y.f1.f1 ∧ y.f1.f1 ≤ 5000) ∧ y.f0.f0 ≤ y.f0.f1 ∧ y.f1.f0 ≤ y.f1.f1
theorem hull_bb : ∀ (l : List S31) (o : Option S31), (∀ z, o = some z → BB z) → (∀ y ∈ l, BB y) → ∀ z, l.foldl hullO o = some z → BB z
  | [], o, h, _ => h
  | y :: l, o, h, hl => by
    refine hull_bb l _ (fun z hz => ?_) (fun q hq => hl q (List.mem_cons_of_mem _ hq))
    have hy := hl y List.mem_cons_self
    unfold hullO at hz
    cases o with
    | none => cases hz; exact hy
    | some q =>
      cases hz
      have hq := h q rfl
      unfold BB hullB at *
      dsimp only
      omega
/-- All currents are bounded. -/
def CurB (s : Sea) : Prop := ∀ c ∈ s.currents, (-5000 ≤ c.f0.f0 ∧ c.f0.f0 ≤ 5000) ∧ (-5000 ≤ c.f0.f1 ∧ c.f0.f1 ≤ 5000) ∧ (-5000 ≤ c.f1.f0 ∧ c.f1.f0 ≤ 5000) ∧ (-5000 ≤ c.f1.f1 ∧ c.f1.f1 ≤ 5000) ∧ c.f0.f0 ≤ c.f0.f1 ∧ c.f1.f0 ≤ c.f1.f1
theorem at_in {s : Sea} (hc : CurB s) (x : S31) (layer t u : Int) : BB (atI s x layer t u) := by
  unfold atI
  have hz : BB z31 := by unfold BB z31 z27; decide
  cases h : hullL (boxesL s x layer (t / s.slot) ((u - 1) / s.slot + 1 - t / s.slot).toNat) with
  | none => exact hz
  | some z =>
    refine hull_bb _ none (fun z h => by cases h) (fun y hy => ?_) z h
    obtain ⟨r, _, hy⟩ := List.mem_flatMap.1 hy
    obtain ⟨c, _, rfl⟩ := List.mem_map.1 hy
    unfold curB
    generalize ((t / s.slot + (r : Int)) * s.layers + layer) * (s.nx * s.ny) + c = i
    have : rd_T40 s.currents i ∈ s.currents ∨ rd_T40 s.currents i = z40 := by
      unfold rd_T40
      rw [List.getD_eq_getElem?_getD]
      cases h2 : s.currents[i.toNat]? with
      | none => exact .inr rfl
      | some q => exact .inl (List.mem_of_getElem? h2)
    rcases this with h2 | h2
    · exact hc _ h2
    · rw [h2]
      unfold BB z40 z27
      decide
end Go.Proofs.Ytmhaiihjfgfaoaa.Gl
end
section
/- The reach of a dive. -/
namespace Go.Proofs.Ytmhaiihjfgfaoaa.Gl
open Go.RowKit Go.Shelf Go.Proofs.YtmhaiihjfgfaoaaW.PrintWords Go.Proofs.YtmhaiihjfgfaoaaW.PrintLast Go.Proofs.YtmhaiihjfgfaoaaW.PrintMore Go.Proofs.Ytmhaiihjfgfaoaa.Pr Go.Proofs.YtmhaiihjfgfaoaaW.Round
set_option linter.unusedVariables false
set_option linter.unusedSimpArgs false
attribute [local go_sem] max2_int min2_int max_two min_two max_four
/-- The box that a dive may reach. -/
def grownI (s : Sea) (v : Veh) (x : S31) : S31 := ⟨⟨x.f0.f0 - ((v.speed + s.most) * v.dive + 999) / 1000, x.f0.f1 + ((v.speed + s.most) * v.dive + 999) / 1000⟩, ⟨x.f1.f0 - ((v.speed + s.most) * v.dive + 999) / 1000, x.f1.f1 + ((v.speed + s.most) * v.dive + 999) / 1000⟩⟩
def reachE (s : Sea) (v : Veh) (x : S31) (t : Int) : Int := if (containsI s (grownI s v x) && knownI s t (t + v.dive)) = true then 0 else 5
def reachV (s : Sea) (v : Veh) (x : S31) (t : Int) : S31 := if reachE s v x t = 0 then grownI s v x else z31
/-- A box whose numbers are not too large. -/
def SmallB (x : S31) : Prop := (-1099511627776 ≤ x.f0.f0 ∧ x.f0.f0 ≤ 1099511627776) ∧ (-1099511627776 ≤ x.f0.f1 ∧ x.f0.f1 ≤ 1099511627776) ∧ (-1099511627776 ≤ x.f1.f0 ∧ x.f1.f0 ≤ 1099511627776) ∧ (-1099511627776 ≤ x.f1.f1 ∧ x.f1.f1 ≤ 1099511627776)
set_option maxRecDepth 100000 in
set_option maxHeartbeats 4000000 in
theorem reach_any (b : Nat) (s : Sea) (v : Veh) (x : S31) (t : Int) (w : World) (hT : TripAt w b s v) (hS : SeaN s) (hV : VehN v) (hx : SmallB x) (ht0 : 0 ≤ t) (ht1 : t ≤ 1099511627776) :
    Calls Try.prog 99 #[.pointer (some ⟨b, 0, none⟩), .agg #[.int .i64 x.f0.f0, .int .i64 x.f0.f1, .int .i64 x.f1.f0, .int .i64 x.f1.f1], .int .i64 t] w (RetB (.tuple #[.agg #[.int .i64 (reachV s v x t).f0.f0, .int .i64 (reachV s v x t).f0.f1, .int .i64 (reachV s v x t).f1.f0, .int .i64 (reachV s v x t).f1.f1], .int .i64 (reachE s v x t)]) w) := by
  have hu31 := Try.underlying31
  have hu27 := Try.underlying27
  have hT0 := hT
  obtain ⟨A7, c7, A8, c8, mT, _⟩ := hT0
  have hm := hS.most
  have hsp := hV.speed
  have hdv := hV.dive
  have p1 := mul_in (show 0 ≤ v.speed + s.most by omega) (show v.speed + s.most ≤ 10000 by omega) (show 0 ≤ v.dive by omega) hdv.2
  have kC := fun W (h : TripAt W b s v) => contains_any b s v (grownI s v x) W h hS
  have kN := fun W (h : TripAt W b s v) => known_any b s v t (t + v.dive) W h hS
  have HE : Hid (reachE s v x t = if (containsI s (grownI s v x) && knownI s t (t + v.dive)) = true then 0 else 5) := Lib.hid rfl
  have HV : Hid (reachV s v x t = if reachE s v x t = 0 then grownI s v x else z31) := Lib.hid rfl
  have hG : grownI s v x = ⟨⟨x.f0.f0 - ((v.speed + s.most) * v.dive + 999) / 1000, x.f0.f1 + ((v.speed + s.most) * v.dive + 999) / 1000⟩, ⟨x.f1.f0 - ((v.speed + s.most) * v.dive + 999) / 1000, x.f1.f1 + ((v.speed + s.most) * v.dive + 999) / 1000⟩⟩ := rfl
  obtain ⟨x0, x1, x2, x3⟩ := hx
  clear hS hV
  go_enter Try.func99, Try.ntmps99
  go_wp2_with fail
  have hl_T := blk_lt mT
  have m4 : Blk ((w.alloc (.cells #[.int .i64 x.f0.f0, .int .i64 x.f0.f1, .int .i64 x.f1.f0, .int .i64 x.f1.f1] 31)).alloc (.cells #[.int .i64 0, .int .i64 0, .int .i64 0, .int .i64 0] 31)) (w.heap.size) #[.int .i64 x.f0.f0, .int .i64 x.f0.f1, .int .i64 x.f1.f0, .int .i64 x.f1.f1] 31 := (blk_alloc zq22 _)
  have m6 : Blk ((w.alloc (.cells #[.int .i64 x.f0.f0, .int .i64 x.f0.f1, .int .i64 x.f1.f0, .int .i64 x.f1.f1] 31)).alloc (.cells #[.int .i64 0, .int .i64 0, .int .i64 0, .int .i64 0] 31)) (w.heap.size + 1) #[.int .i64 0, .int .i64 0, .int .i64 0, .int .i64 0] 31 := (by have h_ := blk_new (w.alloc (.cells #[.int .i64 x.f0.f0, .int .i64 x.f0.f1, .int .i64 x.f1.f0, .int .i64 x.f1.f1] 31)) (.cells #[.int .i64 0, .int .i64 0, .int .i64 0, .int .i64 0] 31); first | exact h_ | (simp only [World.size_alloc] at h_; exact h_))
  replace mT : Blk ((w.alloc (.cells #[.int .i64 x.f0.f0, .int .i64 x.f0.f1, .int .i64 x.f1.f0, .int .i64 x.f1.f1] 31)).alloc (.cells #[.int .i64 0, .int .i64 0, .int .i64 0, .int .i64 0] 31)) b #[.int .i64 s.nx, .int .i64 s.ny, .int .i64 s.cell, .int .i64 s.slot, .int .i64 s.slots, .int .i64 s.layers, .int .i64 s.most, .slice A7 s.shores.length c7, .slice A8 s.currents.length c8, .int .i64 v.speed, .int .i64 v.dive, .int .i64 v.use.f0, .int .i64 v.use.f1, .int .i64 v.drift.f0, .int .i64 v.drift.f1, .int .i64 v.reserve] 110 := (blk_alloc (blk_alloc mT _) _)
  have mB : Below w.heap.size w ((w.alloc (.cells #[.int .i64 x.f0.f0, .int .i64 x.f0.f1, .int .i64 x.f1.f0, .int .i64 x.f1.f1] 31)).alloc (.cells #[.int .i64 0, .int .i64 0, .int .i64 0, .int .i64 0] 31)) := (below_alloc (below_alloc (Below.refl w.heap.size w) _) _)
  have hsz_ : w.heap.size ≤ w.heap.size := Nat.le_refl _
  generalize hW_ : ((w.alloc (.cells #[.int .i64 x.f0.f0, .int .i64 x.f0.f1, .int .i64 x.f1.f0, .int .i64 x.f1.f1] 31)).alloc (.cells #[.int .i64 0, .int .i64 0, .int .i64 0, .int .i64 0] 31)) = W1 at mT m4 m6 mB ⊢
  clear hW_
  generalize hg4 : w.heap.size = g4 at m4 m6 ⊢
  have hn_T_4 : b ≠ g4 := by omega
  have hn_4_T : g4 ≠ b := hn_T_4.symm
  have hG4 : w.heap.size ≤ g4 := by omega
  generalize hg6 : g4 + 1 = g6 at m6 ⊢
  have hn_T_6 : b ≠ g6 := by omega
  have hn_4_6 : g4 ≠ g6 := by omega
  have hn_6_T : g6 ≠ b := hn_T_6.symm
  have hn_6_4 : g6 ≠ g4 := hn_4_6.symm
  have hG6 : w.heap.size ≤ g6 := by omega
  clear hsz_ hl_T
  try clear hg6
  try clear hg4
  have hs_W1 : w.heap.size ≤ W1.heap.size := mB.size
  have cT6 : W1.cell? ⟨b, 6, none⟩ = some (.int .i64 s.most) := (blk_cell mT 6).trans rfl
  have cT9 : W1.cell? ⟨b, 9, none⟩ = some (.int .i64 v.speed) := (blk_cell mT 9).trans rfl
  have cT10 : W1.cell? ⟨b, 10, none⟩ = some (.int .i64 v.dive) := (blk_cell mT 10).trans rfl
  have q1 : wrap64 (v.speed + s.most) = v.speed + s.most := by unfold wrap64; omega
  have q2 : wrap64 ((v.speed + s.most) * v.dive) = (v.speed + s.most) * v.dive := by unfold wrap64; omega
  have q3 : wrap64 ((v.speed + s.most) * v.dive + 999) = (v.speed + s.most) * v.dive + 999 := by unfold wrap64; omega
  have q4 : Int.tdiv ((v.speed + s.most) * v.dive + 999) 1000 = ((v.speed + s.most) * v.dive + 999) / 1000 := Int.tdiv_eq_ediv_of_nonneg (by omega)
  have hby : 0 ≤ ((v.speed + s.most) * v.dive + 999) / 1000 ∧ ((v.speed + s.most) * v.dive + 999) / 1000 ≤ 2000000 := by omega
  go_quiet (fail)
  replace mT := blk_drewN mT nq
  replace m4 := blk_drewN m4 nq
  replace m6 := blk_drewN m6 nq
  replace mB := pw_below_drewN mB nq
  generalize hWq : World.drewN _ nq = W2 at mT m4 m6 mB ⊢
  clear hWq
  have hs_W2 : w.heap.size ≤ W2.heap.size := mB.size
  clear cT6 cT9 cT10 q1 q2 q3 q4
  generalize ((v.speed + s.most) * v.dive + 999) / 1000 = y at *
  clear p1
  generalize grownI s v x = G at *
  subst hG
  dsimp only at kC
  obtain ⟨c4_0, c4_1, c4_2, c4_3⟩ := zcs4 m4
  go_wp2_with fail
  clear c4_0
  clear c4_1
  clear c4_2
  clear c4_3
  have hl_T := blk_lt mT
  have hl_4 := blk_lt m4
  have hl_6 := blk_lt m6
  have m9 : Blk (W2.alloc (.cells #[.int .i64 (x.f0.f0 - y), .int .i64 (x.f0.f1 + y), .int .i64 (x.f1.f0 - y), .int .i64 (x.f1.f1 + y)] 31)) (W2.heap.size) #[.int .i64 (x.f0.f0 - y), .int .i64 (x.f0.f1 + y), .int .i64 (x.f1.f0 - y), .int .i64 (x.f1.f1 + y)] 31 := (by have h_ := blk_new W2 (.cells #[.int .i64 (x.f0.f0 - y), .int .i64 (x.f0.f1 + y), .int .i64 (x.f1.f0 - y), .int .i64 (x.f1.f1 + y)] 31); first | exact h_ | (simp only [World.size_alloc] at h_; exact h_))
  replace mT : Blk (W2.alloc (.cells #[.int .i64 (x.f0.f0 - y), .int .i64 (x.f0.f1 + y), .int .i64 (x.f1.f0 - y), .int .i64 (x.f1.f1 + y)] 31)) b #[.int .i64 s.nx, .int .i64 s.ny, .int .i64 s.cell, .int .i64 s.slot, .int .i64 s.slots, .int .i64 s.layers, .int .i64 s.most, .slice A7 s.shores.length c7, .slice A8 s.currents.length c8, .int .i64 v.speed, .int .i64 v.dive, .int .i64 v.use.f0, .int .i64 v.use.f1, .int .i64 v.drift.f0, .int .i64 v.drift.f1, .int .i64 v.reserve] 110 := (blk_alloc mT _)
  replace m4 : Blk (W2.alloc (.cells #[.int .i64 (x.f0.f0 - y), .int .i64 (x.f0.f1 + y), .int .i64 (x.f1.f0 - y), .int .i64 (x.f1.f1 + y)] 31)) g4 #[.int .i64 x.f0.f0, .int .i64 x.f0.f1, .int .i64 x.f1.f0, .int .i64 x.f1.f1] 31 := (blk_alloc m4 _)
  replace m6 : Blk (W2.alloc (.cells #[.int .i64 (x.f0.f0 - y), .int .i64 (x.f0.f1 + y), .int .i64 (x.f1.f0 - y), .int .i64 (x.f1.f1 + y)] 31)) g6 #[.int .i64 0, .int .i64 0, .int .i64 0, .int .i64 0] 31 := (blk_alloc m6 _)
  replace mB : Below w.heap.size w (W2.alloc (.cells #[.int .i64 (x.f0.f0 - y), .int .i64 (x.f0.f1 + y), .int .i64 (x.f1.f0 - y), .int .i64 (x.f1.f1 + y)] 31)) := (below_alloc mB _)
  have hsz_ : w.heap.size ≤ W2.heap.size := hs_W2
  generalize hW_ : (W2.alloc (.cells #[.int .i64 (x.f0.f0 - y), .int .i64 (x.f0.f1 + y), .int .i64 (x.f1.f0 - y), .int .i64 (x.f1.f1 + y)] 31)) = W3 at mT m4 m6 m9 mB ⊢
  clear hW_
  generalize hg9 : W2.heap.size = g9 at m9 ⊢
  have hn_T_9 : b ≠ g9 := by omega
  have hn_4_9 : g4 ≠ g9 := by omega
  have hn_6_9 : g6 ≠ g9 := by omega
  have hn_9_T : g9 ≠ b := hn_T_9.symm
  have hn_9_4 : g9 ≠ g4 := hn_4_9.symm
  have hn_9_6 : g9 ≠ g6 := hn_6_9.symm
  have hG9 : w.heap.size ≤ g9 := by omega
  clear hsz_ hl_T hl_4 hl_6
  try clear hg9
  have hs_W3 : w.heap.size ≤ W3.heap.size := mB.size
  have hcon := kC W3 (hT.below mB)
  (with_reducible refine hcon.mono ?_)
  clear hcon
  rintro e W4 ⟨rfl, hb⟩
  replace mT := blk_below mT hb
  replace m4 := blk_below m4 hb
  replace m6 := blk_below m6 hb
  replace m9 := blk_below m9 hb
  replace mB := below_step mB hb
  clear hb
  have hs_W4 : w.heap.size ≤ W4.heap.size := mB.size
  cases hc : containsI s ⟨⟨x.f0.f0 - y, x.f0.f1 + y⟩, ⟨x.f1.f0 - y, x.f1.f1 + y⟩⟩ with
  | false =>
    have HZ : Hid (reachE s v x t = 5) := Lib.hid (by rw [HE.out, hc]; rfl)
    clear HE
    have HV2 : Hid (reachV s v x t = z31) := Lib.hid (HV.out.trans zq15)
    clear HV
    obtain ⟨c6_0, c6_1, c6_2, c6_3, f6_0, f6_1, f6_2, f6_3⟩ := zce4 m6
    go_wp2
    exact bodyPost_ret (results_ct rfl _ _ g6 31 #[.int .i64 0, .int .i64 0, .int .i64 0, .int .i64 0] (0, 0) _ rfl (blk_put (blk_put (blk_put (blk_put m6 0 (.int .i64 0) rfl) 1 (.int .i64 0) rfl) 2 (.int .i64 0) rfl) 3 (.int .i64 0) rfl) Try.underlying31 rfl zq1) rfl ⟨zq23, (Below.setCell (p := ⟨g6, 3, none⟩) (Below.setCell (p := ⟨g6, 2, none⟩) (Below.setCell (p := ⟨g6, 1, none⟩) (Below.setCell (p := ⟨g6, 0, none⟩) mB hG6 _) hG6 _) hG6 _) hG6 _)⟩
  | true =>
    have HC := Lib.hid hc
    clear hc
    have cT10 : W4.cell? ⟨b, 10, none⟩ = some (.int .i64 v.dive) := (blk_cell mT 10).trans rfl
    go_wp2_with fail
    clear cT10
    have hcon := kN W4 (hT.below mB)
    (with_reducible refine hcon.mono ?_)
    clear hcon
    rintro e W5 ⟨rfl, hb⟩
    replace mT := blk_below mT hb
    replace m4 := blk_below m4 hb
    replace m6 := blk_below m6 hb
    replace m9 := blk_below m9 hb
    replace mB := below_step mB hb
    clear hb
    have hs_W5 : w.heap.size ≤ W5.heap.size := mB.size
    cases hk : knownI s t (t + v.dive) with
    | false =>
      have HZ : Hid (reachE s v x t = 5) := Lib.hid (by rw [HE.out, HC.out, hk]; rfl)
      clear HE
      have HV2 : Hid (reachV s v x t = z31) := Lib.hid (HV.out.trans zq15)
      clear HV
      obtain ⟨c6_0, c6_1, c6_2, c6_3, f6_0, f6_1, f6_2, f6_3⟩ := zce4 m6
      go_wp2
      exact bodyPost_ret (results_ct rfl _ _ g6 31 #[.int .i64 0, .int .i64 0, .int .i64 0, .int .i64 0] (0, 0) _ rfl (blk_put (blk_put (blk_put (blk_put m6 0 (.int .i64 0) rfl) 1 (.int .i64 0) rfl) 2 (.int .i64 0) rfl) 3 (.int .i64 0) rfl) Try.underlying31 rfl zq1) rfl ⟨zq23, (Below.setCell (p := ⟨g6, 3, none⟩) (Below.setCell (p := ⟨g6, 2, none⟩) (Below.setCell (p := ⟨g6, 1, none⟩) (Below.setCell (p := ⟨g6, 0, none⟩) mB hG6 _) hG6 _) hG6 _) hG6 _)⟩
    | true =>
      have HZ : Hid (reachE s v x t = 0) := Lib.hid (by rw [HE.out, HC.out, hk]; rfl)
      clear HE hk
      have HV2 := Lib.hid (HV.out.trans (if_pos HZ.out))
      clear HV
      obtain ⟨c6_0, c6_1, c6_2, c6_3⟩ := zcs4 m6
      obtain ⟨c9_0, c9_1, c9_2, c9_3⟩ := zcs4 m9
      obtain ⟨f6_0, f6_1, f6_2, f6_3⟩ := zfs4 m6
      go_wp2
      exact bodyPost_ret (results_ct rfl _ _ g6 31 #[.int .i64 (x.f0.f0 - y), .int .i64 (x.f0.f1 + y), .int .i64 (x.f1.f0 - y), .int .i64 (x.f1.f1 + y)] (0, 0) _ rfl (blk_put (blk_put (blk_put (blk_put m6 0 (.int .i64 (x.f0.f0 - y)) rfl) 1 (.int .i64 (x.f0.f1 + y)) rfl) 2 (.int .i64 (x.f1.f0 - y)) rfl) 3 (.int .i64 (x.f1.f1 + y)) rfl) Try.underlying31 rfl zq1) rfl ⟨zq23, (Below.setCell (p := ⟨g6, 3, none⟩) (Below.setCell (p := ⟨g6, 2, none⟩) (Below.setCell (p := ⟨g6, 1, none⟩) (Below.setCell (p := ⟨g6, 0, none⟩) mB hG6 _) hG6 _) hG6 _) hG6 _)⟩
end Go.Proofs.Ytmhaiihjfgfaoaa.Gl
end
section
/- The box in which a dive ends. -/
namespace Go.Proofs.Ytmhaiihjfgfaoaa.Gl
open Go.RowKit Go.Shelf Go.Proofs.YtmhaiihjfgfaoaaW.PrintWords Go.Proofs.YtmhaiihjfgfaoaaW.PrintLast Go.Proofs.YtmhaiihjfgfaoaaW.PrintMore Go.Proofs.Ytmhaiihjfgfaoaa.Pr Go.Proofs.YtmhaiihjfgfaoaaW.Round
set_option linter.unusedVariables false
set_option linter.unusedSimpArgs false
attribute [local go_sem] max2_int min2_int max_two min_two max_four
/-- The direction of a heading. -/
def dirI (h : Int) : Int × Int := if h = 0 then (0, 1000) else if h = 1 then (707, 707) else if h = 2 then (1000, 0) else if h = 3 then (707, -707) else if h = 4 then (0, -1000) else if h = 5 then (-707, -707) else if h = 6 then (-1000, 0) else if h = 7 then (-707, 707) else if h = 8 then (0, 0) else (0, 0)
theorem dirI_in (h : Int) : (-1000 ≤ (dirI h).1 ∧ (dirI h).1 ≤ 1000) ∧ (-1000 ≤ (dirI h).2 ∧ (dirI h).2 ≤ 1000) := by
  unfold dirI
  repeat' split
  all_goals decide
set_option maxRecDepth 100000 in
set_option maxHeartbeats 2000000 in
theorem dirs_any (w : World) : Calls Try.prog 130 #[] w (RetB (.agg #[.int .i64 0, .int .i64 1000, .int .i64 707, .int .i64 707, .int .i64 1000, .int .i64 0, .int .i64 707, .int .i64 (-707), .int .i64 0, .int .i64 (-1000), .int .i64 (-707), .int .i64 (-707), .int .i64 (-1000), .int .i64 0, .int .i64 (-707), .int .i64 707, .int .i64 0, .int .i64 0]) w) := by
  have hu162 := Try.underlying162
  have hu161 := Try.underlying161
  go_enter Try.func130, Try.ntmps130
  go_wp2
  exact bodyPost_ret (results_cell_row rfl _ _ w.heap.size 162 #[.int .i64 0, .int .i64 1000, .int .i64 707, .int .i64 707, .int .i64 1000, .int .i64 0, .int .i64 707, .int .i64 (-707), .int .i64 0, .int .i64 (-1000), .int .i64 (-707), .int .i64 (-707), .int .i64 (-1000), .int .i64 0, .int .i64 (-707), .int .i64 707, .int .i64 0, .int .i64 0] (0, 0) _ rfl (blk_new w _) Try.underlying162 rfl zq1) rfl ⟨rfl, below_alloc (Below.refl _ w) _⟩
/-- The box in which a dive ends. -/
def endsI (s : Sea) (v : Veh) (x rb : S31) (t heading layer : Int) : S31 := ⟨shiftI v.dive x.f0 ((dirI heading).1 * v.speed) (atI s rb layer t (t + v.dive)).f0, shiftI v.dive x.f1 ((dirI heading).2 * v.speed) (atI s rb layer t (t + v.dive)).f1⟩
set_option maxRecDepth 100000 in
set_option maxHeartbeats 8000000 in
theorem ends_any (b : Nat) (se : Sea) (v : Veh) (x rb : S31) (t hd layer : Int) (w : World) (hT : TripAt w b se v) (hS : SeaN se) (hV : VehN v) (hcu : (se.currents.length : Int) = se.slots * se.layers * (se.nx * se.ny)) (hcb : CurB se) (hx : SmallB x) (hr : InSea se rb) (ht0 : 0 ≤ t) (ht2 : t + v.dive ≤ se.slots * se.slot) (hh0 : 0 ≤ hd) (hh1 : hd ≤ 8) (hl0 : 0 ≤ layer) (hl1 : layer < se.layers) :
    Calls Try.prog 101 #[.pointer (some ⟨b, 0, none⟩), .agg #[.int .i64 x.f0.f0, .int .i64 x.f0.f1, .int .i64 x.f1.f0, .int .i64 x.f1.f1], .agg #[.int .i64 rb.f0.f0, .int .i64 rb.f0.f1, .int .i64 rb.f1.f0, .int .i64 rb.f1.f1], .int .i64 t, .agg #[.int .i64 hd, .int .i64 layer]] w (RetB (.agg #[.int .i64 (endsI se v x rb t hd layer).f0.f0, .int .i64 (endsI se v x rb t hd layer).f0.f1, .int .i64 (endsI se v x rb t hd layer).f1.f0, .int .i64 (endsI se v x rb t hd layer).f1.f1]) w) := by
  have hu31 := Try.underlying31
  have hu27 := Try.underlying27
  have hu161 := Try.underlying161
  have hu162 := Try.underlying162
  have hu33 := Try.underlying33
  have hdv := hV.dive
  have hsp := hV.speed
  have hss := mul_in (show 0 ≤ se.slots by have := hS.slots; omega) hS.slots.2 (show 0 ≤ se.slot by have := hS.slot; omega) hS.slot.2
  have hix : ∀ W_ : World, (Instr.index 162 (.agg #[.int .i64 0, .int .i64 1000, .int .i64 707, .int .i64 707, .int .i64 1000, .int .i64 0, .int .i64 707, .int .i64 (-707), .int .i64 0, .int .i64 (-1000), .int .i64 (-707), .int .i64 (-707), .int .i64 (-1000), .int .i64 0, .int .i64 (-707), .int .i64 707, .int .i64 0, .int .i64 0]) (.int .i64 hd)).run Try.prog W_ = .ok (.agg #[.int .i64 (dirI hd).1, .int .i64 (dirI hd).2]) W_ := by
    have h9 : hd = 0 ∨ hd = 1 ∨ hd = 2 ∨ hd = 3 ∨ hd = 4 ∨ hd = 5 ∨ hd = 6 ∨ hd = 7 ∨ hd = 8 := by omega
    rcases h9 with rfl | rfl | rfl | rfl | rfl | rfl | rfl | rfl | rfl <;> exact fun W_ => by kernel_rfl
  have hdi := dirI_in hd
  have hai := at_in hcb rb layer t (t + v.dive)
  have kA := fun u_ (hu_ : u_ = t + v.dive) W (h : TripAt W b se v) => at_any b se v rb layer t u_ W h hS hr hcu hl0 hl1 ht0 (by omega) (by omega)
  have hyy : ∀ u_, u_ = t + v.dive → atI se rb layer t u_ = atI se rb layer t (t + v.dive) := fun u_ h => by rw [h]
  have HR : Hid (endsI se v x rb t hd layer = ⟨shiftI v.dive x.f0 ((dirI hd).1 * v.speed) (atI se rb layer t (t + v.dive)).f0, shiftI v.dive x.f1 ((dirI hd).2 * v.speed) (atI se rb layer t (t + v.dive)).f1⟩) := Lib.hid rfl
  have kA := fun u_ (hu_ : u_ = t + v.dive) W (h : TripAt W b se v) => by have h1 := kA u_ hu_ W h; rw [hyy u_ hu_] at h1; exact h1
  clear hyy
  generalize atI se rb layer t (t + v.dive) = y at *
  generalize dirI hd = d at *
  obtain ⟨d0, d1⟩ := d
  dsimp only at hdi hix HR
  have m0 := mul_abs (a := d0) (b := v.speed) (m := 1000) (n := 5000) hdi.1.1 hdi.1.2 hsp.1 hsp.2 (by omega)
  have m1 := mul_abs (a := d1) (b := v.speed) (m := 1000) (n := 5000) hdi.2.1 hdi.2.2 hsp.1 hsp.2 (by omega)
  have kS0 := fun z_ (hz_ : z_ = d0 * v.speed) W (h : TripAt W b se v) => shift_any b se v x.f0 z_ y.f0 W h hV hx.1 hx.2.1 (by omega) hai.1 hai.2.1
  have kS1 := fun z_ (hz_ : z_ = d1 * v.speed) W (h : TripAt W b se v) => shift_any b se v x.f1 z_ y.f1 W h hV hx.2.2.1 hx.2.2.2 (by omega) hai.2.2.1 hai.2.2.2.1
  have hT0 := hT
  obtain ⟨A7, c7, A8, c8, mT, _⟩ := hT0
  have w1 : wrap64 (t + v.dive) = t + v.dive := by unfold wrap64; omega
  have w2 : wrap64 (d0 * v.speed) = d0 * v.speed := by unfold wrap64; omega
  have w3 : wrap64 (d1 * v.speed) = d1 * v.speed := by unfold wrap64; omega
  clear hx hr hS hV hcu hcb hai hdi hss m0 m1 hdv hsp ht0 ht2 hh0 hh1 hl0 hl1
  go_enter Try.func101, Try.ntmps101
  go_wp2_with fail
  have hl_T := blk_lt mT
  have m6 : Blk ((((w.alloc (.cells #[.int .i64 x.f0.f0, .int .i64 x.f0.f1, .int .i64 x.f1.f0, .int .i64 x.f1.f1] 31)).alloc (.cells #[.int .i64 rb.f0.f0, .int .i64 rb.f0.f1, .int .i64 rb.f1.f0, .int .i64 rb.f1.f1] 31)).alloc (.cells #[.int .i64 hd, .int .i64 layer] 33)).alloc (.cells #[.int .i64 0, .int .i64 0, .int .i64 0, .int .i64 0] 31)) (w.heap.size) #[.int .i64 x.f0.f0, .int .i64 x.f0.f1, .int .i64 x.f1.f0, .int .i64 x.f1.f1] 31 := (blk_alloc (blk_alloc (blk_alloc zq22 _) _) _)
  have m7 : Blk ((((w.alloc (.cells #[.int .i64 x.f0.f0, .int .i64 x.f0.f1, .int .i64 x.f1.f0, .int .i64 x.f1.f1] 31)).alloc (.cells #[.int .i64 rb.f0.f0, .int .i64 rb.f0.f1, .int .i64 rb.f1.f0, .int .i64 rb.f1.f1] 31)).alloc (.cells #[.int .i64 hd, .int .i64 layer] 33)).alloc (.cells #[.int .i64 0, .int .i64 0, .int .i64 0, .int .i64 0] 31)) (w.heap.size + 1) #[.int .i64 rb.f0.f0, .int .i64 rb.f0.f1, .int .i64 rb.f1.f0, .int .i64 rb.f1.f1] 31 := (blk_alloc (blk_alloc (by have h_ := blk_new (w.alloc (.cells #[.int .i64 x.f0.f0, .int .i64 x.f0.f1, .int .i64 x.f1.f0, .int .i64 x.f1.f1] 31)) (.cells #[.int .i64 rb.f0.f0, .int .i64 rb.f0.f1, .int .i64 rb.f1.f0, .int .i64 rb.f1.f1] 31); first | exact h_ | (simp only [World.size_alloc] at h_; exact h_)) _) _)
  have m9 : Blk ((((w.alloc (.cells #[.int .i64 x.f0.f0, .int .i64 x.f0.f1, .int .i64 x.f1.f0, .int .i64 x.f1.f1] 31)).alloc (.cells #[.int .i64 rb.f0.f0, .int .i64 rb.f0.f1, .int .i64 rb.f1.f0, .int .i64 rb.f1.f1] 31)).alloc (.cells #[.int .i64 hd, .int .i64 layer] 33)).alloc (.cells #[.int .i64 0, .int .i64 0, .int .i64 0, .int .i64 0] 31)) (w.heap.size + 1 + 1) #[.int .i64 hd, .int .i64 layer] 33 := (blk_alloc (by have h_ := blk_new ((w.alloc (.cells #[.int .i64 x.f0.f0, .int .i64 x.f0.f1, .int .i64 x.f1.f0, .int .i64 x.f1.f1] 31)).alloc (.cells #[.int .i64 rb.f0.f0, .int .i64 rb.f0.f1, .int .i64 rb.f1.f0, .int .i64 rb.f1.f1] 31)) (.cells #[.int .i64 hd, .int .i64 layer] 33); first | exact h_ | (simp only [World.size_alloc] at h_; exact h_)) _)
  have m10 : Blk ((((w.alloc (.cells #[.int .i64 x.f0.f0, .int .i64 x.f0.f1, .int .i64 x.f1.f0, .int .i64 x.f1.f1] 31)).alloc (.cells #[.int .i64 rb.f0.f0, .int .i64 rb.f0.f1, .int .i64 rb.f1.f0, .int .i64 rb.f1.f1] 31)).alloc (.cells #[.int .i64 hd, .int .i64 layer] 33)).alloc (.cells #[.int .i64 0, .int .i64 0, .int .i64 0, .int .i64 0] 31)) (w.heap.size + 1 + 1 + 1) #[.int .i64 0, .int .i64 0, .int .i64 0, .int .i64 0] 31 := (by have h_ := blk_new (((w.alloc (.cells #[.int .i64 x.f0.f0, .int .i64 x.f0.f1, .int .i64 x.f1.f0, .int .i64 x.f1.f1] 31)).alloc (.cells #[.int .i64 rb.f0.f0, .int .i64 rb.f0.f1, .int .i64 rb.f1.f0, .int .i64 rb.f1.f1] 31)).alloc (.cells #[.int .i64 hd, .int .i64 layer] 33)) (.cells #[.int .i64 0, .int .i64 0, .int .i64 0, .int .i64 0] 31); first | exact h_ | (simp only [World.size_alloc] at h_; exact h_))
  replace mT : Blk ((((w.alloc (.cells #[.int .i64 x.f0.f0, .int .i64 x.f0.f1, .int .i64 x.f1.f0, .int .i64 x.f1.f1] 31)).alloc (.cells #[.int .i64 rb.f0.f0, .int .i64 rb.f0.f1, .int .i64 rb.f1.f0, .int .i64 rb.f1.f1] 31)).alloc (.cells #[.int .i64 hd, .int .i64 layer] 33)).alloc (.cells #[.int .i64 0, .int .i64 0, .int .i64 0, .int .i64 0] 31)) b #[.int .i64 se.nx, .int .i64 se.ny, .int .i64 se.cell, .int .i64 se.slot, .int .i64 se.slots, .int .i64 se.layers, .int .i64 se.most, .slice A7 se.shores.length c7, .slice A8 se.currents.length c8, .int .i64 v.speed, .int .i64 v.dive, .int .i64 v.use.f0, .int .i64 v.use.f1, .int .i64 v.drift.f0, .int .i64 v.drift.f1, .int .i64 v.reserve] 110 := (blk_alloc (blk_alloc (blk_alloc (blk_alloc mT _) _) _) _)
  have mB : Below w.heap.size w ((((w.alloc (.cells #[.int .i64 x.f0.f0, .int .i64 x.f0.f1, .int .i64 x.f1.f0, .int .i64 x.f1.f1] 31)).alloc (.cells #[.int .i64 rb.f0.f0, .int .i64 rb.f0.f1, .int .i64 rb.f1.f0, .int .i64 rb.f1.f1] 31)).alloc (.cells #[.int .i64 hd, .int .i64 layer] 33)).alloc (.cells #[.int .i64 0, .int .i64 0, .int .i64 0, .int .i64 0] 31)) := (below_alloc (below_alloc (below_alloc (below_alloc (Below.refl w.heap.size w) _) _) _) _)
  have hsz_ : w.heap.size ≤ w.heap.size := Nat.le_refl _
  generalize hW_ : ((((w.alloc (.cells #[.int .i64 x.f0.f0, .int .i64 x.f0.f1, .int .i64 x.f1.f0, .int .i64 x.f1.f1] 31)).alloc (.cells #[.int .i64 rb.f0.f0, .int .i64 rb.f0.f1, .int .i64 rb.f1.f0, .int .i64 rb.f1.f1] 31)).alloc (.cells #[.int .i64 hd, .int .i64 layer] 33)).alloc (.cells #[.int .i64 0, .int .i64 0, .int .i64 0, .int .i64 0] 31)) = W1 at mT m6 m7 m9 m10 mB ⊢
  clear hW_
  generalize hg6 : w.heap.size = g6 at m6 m7 m9 m10 ⊢
  have hn_T_6 : b ≠ g6 := by omega
  have hn_6_T : g6 ≠ b := hn_T_6.symm
  have hG6 : w.heap.size ≤ g6 := by omega
  generalize hg7 : g6 + 1 = g7 at m7 m9 m10 ⊢
  have hn_T_7 : b ≠ g7 := by omega
  have hn_6_7 : g6 ≠ g7 := by omega
  have hn_7_T : g7 ≠ b := hn_T_7.symm
  have hn_7_6 : g7 ≠ g6 := hn_6_7.symm
  have hG7 : w.heap.size ≤ g7 := by omega
  generalize hg9 : g7 + 1 = g9 at m9 m10 ⊢
  have hn_T_9 : b ≠ g9 := by omega
  have hn_6_9 : g6 ≠ g9 := by omega
  have hn_7_9 : g7 ≠ g9 := by omega
  have hn_9_T : g9 ≠ b := hn_T_9.symm
  have hn_9_6 : g9 ≠ g6 := hn_6_9.symm
  have hn_9_7 : g9 ≠ g7 := hn_7_9.symm
  have hG9 : w.heap.size ≤ g9 := by omega
  generalize hg10 : g9 + 1 = g10 at m10 ⊢
  have hn_T_10 : b ≠ g10 := by omega
  have hn_6_10 : g6 ≠ g10 := by omega
  have hn_7_10 : g7 ≠ g10 := by omega
  have hn_9_10 : g9 ≠ g10 := by omega
  have hn_10_T : g10 ≠ b := hn_T_10.symm
  have hn_10_6 : g10 ≠ g6 := hn_6_10.symm
  have hn_10_7 : g10 ≠ g7 := hn_7_10.symm
  have hn_10_9 : g10 ≠ g9 := hn_9_10.symm
  have hG10 : w.heap.size ≤ g10 := by omega
  clear hsz_ hl_T
  try clear hg10
  try clear hg9
  try clear hg7
  try clear hg6
  have hs_W1 : w.heap.size ≤ W1.heap.size := mB.size
  replace mT := blk_drew mT
  replace m6 := blk_drew m6
  replace m7 := blk_drew m7
  replace m9 := blk_drew m9
  replace m10 := blk_drew m10
  replace mB := below_drew1 mB
  refine start_ (n := 6) (S := fun w' => w'.cell? ⟨g9, 0, none⟩ = some (.int .i64 hd) ∧ w'.cell? ⟨g9, 1, none⟩ = some (.int .i64 layer)) (ds := [5]) #[false, false, false, false, false, false] zq1 rfl rfl ⟨((blk_cell m9 0).trans rfl), ((blk_cell m9 1).trans rfl)⟩ (fun hHeld => ?_)
  generalize hWd : World.drew _ = Wx at mT m6 m7 m9 m10 mB hHeld ⊢
  clear hWd
  refine zpz (i := 1) (N := some 14) zq1 ?_
  refine ztz (i := 2) (N := some 15) zq1 hHeld ?_
  refine join_ (σ := Nat) 1 #[true, true, true, true, true, false] (fun s => [(13, .agg #[.int .i64 0, .int .i64 1000, .int .i64 707, .int .i64 707, .int .i64 1000, .int .i64 0, .int .i64 707, .int .i64 (-707), .int .i64 0, .int .i64 (-1000), .int .i64 (-707), .int .i64 (-707), .int .i64 (-1000), .int .i64 0, .int .i64 (-707), .int .i64 707, .int .i64 0, .int .i64 0]), (16, .agg #[.int .i64 d0, .int .i64 d1]), (11, .pointer (some ⟨s, 0, none⟩))]) (fun s w' => Blk w' b #[.int .i64 se.nx, .int .i64 se.ny, .int .i64 se.cell, .int .i64 se.slot, .int .i64 se.slots, .int .i64 se.layers, .int .i64 se.most, .slice A7 se.shores.length c7, .slice A8 se.currents.length c8, .int .i64 v.speed, .int .i64 v.dive, .int .i64 v.use.f0, .int .i64 v.use.f1, .int .i64 v.drift.f0, .int .i64 v.drift.f1, .int .i64 v.reserve] 110 ∧ Blk w' g6 #[.int .i64 x.f0.f0, .int .i64 x.f0.f1, .int .i64 x.f1.f0, .int .i64 x.f1.f1] 31 ∧ Blk w' g7 #[.int .i64 rb.f0.f0, .int .i64 rb.f0.f1, .int .i64 rb.f1.f0, .int .i64 rb.f1.f1] 31 ∧ Blk w' g9 #[.int .i64 hd, .int .i64 layer] 33 ∧ Blk w' g10 #[.int .i64 0, .int .i64 0, .int .i64 0, .int .i64 0] 31 ∧ Blk w' (s) #[.int .i64 0, .int .i64 0] 161 ∧ Below w.heap.size w w' ∧ w.heap.size ≤ s ∧ b ≠ s ∧ g6 ≠ s ∧ g7 ≠ s ∧ g9 ≠ s ∧ g10 ≠ s) ?_ ?_
  rotate_left
  · intro hCont
    refine two_ (i := 0) (j := 4) (Ni := some 13) (Nj := some 11) #[true, true, true, false, false, false] #[false, true, true, false, true, false] rfl rfl rfl rfl zq1 (by decide) (by decide) (fun K hK => ?_) (fun K hK => ?_)
    · skip
      have hcon_ := dirs_any (Wx)
      refine goes_ Try.func130 zq1 rfl #[] (by rfl) rfl rfl (by simp only [List.map_toArray, List.map_cons, List.map_nil]) ?_
      with_reducible refine (hcon_).mono ?_
      rintro e w0 ⟨rfl, hb⟩
      refine ⟨_, rfl, ?_⟩
      clear hcon_
      replace mT := blk_below mT hb
      replace m6 := blk_below m6 hb
      replace m7 := blk_below m7 hb
      replace m9 := blk_below m9 hb
      replace m10 := blk_below m10 hb
      replace mB := below_step mB hb
      clear hb
      refine hK.out _ _ ⟨((blk_cell m9 0).trans rfl), ((blk_cell m9 1).trans rfl)⟩ (fun hHeld => ?_)
      clear hK K
      refine norm_ zq24 ?_
      refine ztz (i := 3) (N := some 16) zq1 hHeld ?_
      refine one_ (i := 4) (N := some 11) #[true, true, true, true, true, false] rfl rfl zq1 (by decide) (fun K hK => ?_)
      have hn_T_11 : b ≠ w0.heap.size := by have h_ := blk_lt mT; omega
      have hn_6_11 : g6 ≠ w0.heap.size := by have h_ := blk_lt m6; omega
      have hn_7_11 : g7 ≠ w0.heap.size := by have h_ := blk_lt m7; omega
      have hn_9_11 : g9 ≠ w0.heap.size := by have h_ := blk_lt m9; omega
      have hn_10_11 : g10 ≠ w0.heap.size := by have h_ := blk_lt m10; omega
      have hG11 : w.heap.size ≤ w0.heap.size := by have h_ := mB.size; omega
      replace mT := blk_alloc mT (.cells #[.int .i64 0, .int .i64 0] 161)
      replace m6 := blk_alloc m6 (.cells #[.int .i64 0, .int .i64 0] 161)
      replace m7 := blk_alloc m7 (.cells #[.int .i64 0, .int .i64 0] 161)
      replace m9 := blk_alloc m9 (.cells #[.int .i64 0, .int .i64 0] 161)
      replace m10 := blk_alloc m10 (.cells #[.int .i64 0, .int .i64 0] 161)
      have m11 : Blk (w0.alloc (.cells #[.int .i64 0, .int .i64 0] 161)) (w0.heap.size) #[.int .i64 0, .int .i64 0] 161 := by have h_ := blk_new w0 (.cells #[.int .i64 0, .int .i64 0] 161); first | exact h_ | (simp only [World.size_alloc] at h_; exact h_)
      replace mB := below_alloc mB (.cells #[.int .i64 0, .int .i64 0] 161)
      refine value_ (w1 := ?_) (v := ?_) (by rfl) rfl ?_ ?_
      rotate_left 2
      · go_simp
        constructor
        · rfl
        · rfl
      refine hK.out _ _ ⟨((blk_cell m9 0).trans rfl), ((blk_cell m9 1).trans rfl)⟩ (fun hHeld => ?_)
      clear hK K
      refine norm_ zq25 ?_
      exact norm_ zq26 (hCont (w0.heap.size) _ ⟨mT, m6, m7, m9, m10, m11, mB, hG11, hn_T_11, hn_6_11, hn_7_11, hn_9_11, hn_10_11⟩)
    · skip
      have hn_T_11 : b ≠ Wx.heap.size := by have h_ := blk_lt mT; omega
      have hn_6_11 : g6 ≠ Wx.heap.size := by have h_ := blk_lt m6; omega
      have hn_7_11 : g7 ≠ Wx.heap.size := by have h_ := blk_lt m7; omega
      have hn_9_11 : g9 ≠ Wx.heap.size := by have h_ := blk_lt m9; omega
      have hn_10_11 : g10 ≠ Wx.heap.size := by have h_ := blk_lt m10; omega
      have hG11 : w.heap.size ≤ Wx.heap.size := by have h_ := mB.size; omega
      replace mT := blk_alloc mT (.cells #[.int .i64 0, .int .i64 0] 161)
      replace m6 := blk_alloc m6 (.cells #[.int .i64 0, .int .i64 0] 161)
      replace m7 := blk_alloc m7 (.cells #[.int .i64 0, .int .i64 0] 161)
      replace m9 := blk_alloc m9 (.cells #[.int .i64 0, .int .i64 0] 161)
      replace m10 := blk_alloc m10 (.cells #[.int .i64 0, .int .i64 0] 161)
      have m11 : Blk (Wx.alloc (.cells #[.int .i64 0, .int .i64 0] 161)) (Wx.heap.size) #[.int .i64 0, .int .i64 0] 161 := by have h_ := blk_new Wx (.cells #[.int .i64 0, .int .i64 0] 161); first | exact h_ | (simp only [World.size_alloc] at h_; exact h_)
      replace mB := below_alloc mB (.cells #[.int .i64 0, .int .i64 0] 161)
      refine value_ (w1 := ?_) (v := ?_) (by rfl) rfl ?_ ?_
      rotate_left 2
      · go_simp
        constructor
        · rfl
        · rfl
      refine hK.out _ _ ⟨((blk_cell m9 0).trans rfl), ((blk_cell m9 1).trans rfl)⟩ (fun hHeld => ?_)
      clear hK K
      refine norm_ zq25 ?_
      refine one_ (i := 0) (N := some 13) #[true, true, true, false, true, false] rfl rfl zq1 (by decide) (fun K hK => ?_)
      have hcon_ := dirs_any ((Wx.alloc (.cells #[.int .i64 0, .int .i64 0] 161)))
      refine goes_ Try.func130 zq1 rfl #[] (by rfl) rfl rfl (by simp only [List.map_toArray, List.map_cons, List.map_nil]) ?_
      with_reducible refine (hcon_).mono ?_
      rintro e w0 ⟨rfl, hb⟩
      refine ⟨_, rfl, ?_⟩
      clear hcon_
      replace mT := blk_below mT hb
      replace m6 := blk_below m6 hb
      replace m7 := blk_below m7 hb
      replace m9 := blk_below m9 hb
      replace m10 := blk_below m10 hb
      replace m11 := blk_below m11 hb
      replace mB := below_step mB hb
      clear hb
      refine hK.out _ _ ⟨((blk_cell m9 0).trans rfl), ((blk_cell m9 1).trans rfl)⟩ (fun hHeld => ?_)
      clear hK K
      refine norm_ zq24 ?_
      refine ztz (i := 3) (N := some 16) zq1 hHeld ?_
      exact norm_ zq26 (hCont (Wx.heap.size) _ ⟨mT, m6, m7, m9, m10, m11, mB, hG11, hn_T_11, hn_6_11, hn_7_11, hn_9_11, hn_10_11⟩)
  rintro g11 Wg ⟨mT, m6, m7, m9, m10, m11, mB, hG11, hn_T_11, hn_6_11, hn_7_11, hn_9_11, hn_10_11⟩
  have hHeld : (Wg.cell? ⟨g9, 0, none⟩ = some (.int .i64 hd) ∧ Wg.cell? ⟨g9, 1, none⟩ = some (.int .i64 layer)) := ⟨((blk_cell m9 0).trans rfl), ((blk_cell m9 1).trans rfl)⟩
  refine norm_ (a' := ?_) ?_ ?_
  rotate_left
  · simp only [putAll, Act.put, List.setIfInBounds_toArray, List.set_cons_zero, List.set_cons_succ]
    rfl
  refine last_ (i := 5) (N := none) #[true, true, true, true, true, true] rfl rfl zq1 (by decide) (fun K hK => ?_)
  have hf0_ := blk_frozen m11 0
  have hc0_ := (blk_cell m11 0).trans rfl
  have hf1_ := blk_frozen m11 1
  have hc1_ := (blk_cell m11 1).trans rfl
  refine skip_ (w1 := ?_) (by rfl) rfl ?_ ?_
  rotate_left
  · go_simp
    rfl
  clear hf0_ hc0_ hf1_ hc1_
  replace mT : Blk (Wg.setCell ⟨g11, 0, none⟩ (.int .i64 d0)) b #[.int .i64 se.nx, .int .i64 se.ny, .int .i64 se.cell, .int .i64 se.slot, .int .i64 se.slots, .int .i64 se.layers, .int .i64 se.most, .slice A7 se.shores.length c7, .slice A8 se.currents.length c8, .int .i64 v.speed, .int .i64 v.dive, .int .i64 v.use.f0, .int .i64 v.use.f1, .int .i64 v.drift.f0, .int .i64 v.drift.f1, .int .i64 v.reserve] 110 := blk_far (p := ⟨g11, 0, none⟩) mT hn_T_11 _
  replace m6 : Blk (Wg.setCell ⟨g11, 0, none⟩ (.int .i64 d0)) g6 #[.int .i64 x.f0.f0, .int .i64 x.f0.f1, .int .i64 x.f1.f0, .int .i64 x.f1.f1] 31 := blk_far (p := ⟨g11, 0, none⟩) m6 hn_6_11 _
  replace m7 : Blk (Wg.setCell ⟨g11, 0, none⟩ (.int .i64 d0)) g7 #[.int .i64 rb.f0.f0, .int .i64 rb.f0.f1, .int .i64 rb.f1.f0, .int .i64 rb.f1.f1] 31 := blk_far (p := ⟨g11, 0, none⟩) m7 hn_7_11 _
  replace m9 : Blk (Wg.setCell ⟨g11, 0, none⟩ (.int .i64 d0)) g9 #[.int .i64 hd, .int .i64 layer] 33 := blk_far (p := ⟨g11, 0, none⟩) m9 hn_9_11 _
  replace m10 : Blk (Wg.setCell ⟨g11, 0, none⟩ (.int .i64 d0)) g10 #[.int .i64 0, .int .i64 0, .int .i64 0, .int .i64 0] 31 := blk_far (p := ⟨g11, 0, none⟩) m10 hn_10_11 _
  replace m11 : Blk (Wg.setCell ⟨g11, 0, none⟩ (.int .i64 d0)) g11 #[.int .i64 d0, .int .i64 0] 161 := blk_put m11 0 _ rfl
  replace mB : Below w.heap.size w (Wg.setCell ⟨g11, 0, none⟩ (.int .i64 d0)) := mB.setCell (p := ⟨g11, 0, none⟩) hG11 _
  replace mT : Blk ((Wg.setCell ⟨g11, 0, none⟩ (.int .i64 d0)).setCell ⟨g11, 1, none⟩ (.int .i64 d1)) b #[.int .i64 se.nx, .int .i64 se.ny, .int .i64 se.cell, .int .i64 se.slot, .int .i64 se.slots, .int .i64 se.layers, .int .i64 se.most, .slice A7 se.shores.length c7, .slice A8 se.currents.length c8, .int .i64 v.speed, .int .i64 v.dive, .int .i64 v.use.f0, .int .i64 v.use.f1, .int .i64 v.drift.f0, .int .i64 v.drift.f1, .int .i64 v.reserve] 110 := blk_far (p := ⟨g11, 1, none⟩) mT hn_T_11 _
  replace m6 : Blk ((Wg.setCell ⟨g11, 0, none⟩ (.int .i64 d0)).setCell ⟨g11, 1, none⟩ (.int .i64 d1)) g6 #[.int .i64 x.f0.f0, .int .i64 x.f0.f1, .int .i64 x.f1.f0, .int .i64 x.f1.f1] 31 := blk_far (p := ⟨g11, 1, none⟩) m6 hn_6_11 _
  replace m7 : Blk ((Wg.setCell ⟨g11, 0, none⟩ (.int .i64 d0)).setCell ⟨g11, 1, none⟩ (.int .i64 d1)) g7 #[.int .i64 rb.f0.f0, .int .i64 rb.f0.f1, .int .i64 rb.f1.f0, .int .i64 rb.f1.f1] 31 := blk_far (p := ⟨g11, 1, none⟩) m7 hn_7_11 _
  replace m9 : Blk ((Wg.setCell ⟨g11, 0, none⟩ (.int .i64 d0)).setCell ⟨g11, 1, none⟩ (.int .i64 d1)) g9 #[.int .i64 hd, .int .i64 layer] 33 := blk_far (p := ⟨g11, 1, none⟩) m9 hn_9_11 _
  replace m10 : Blk ((Wg.setCell ⟨g11, 0, none⟩ (.int .i64 d0)).setCell ⟨g11, 1, none⟩ (.int .i64 d1)) g10 #[.int .i64 0, .int .i64 0, .int .i64 0, .int .i64 0] 31 := blk_far (p := ⟨g11, 1, none⟩) m10 hn_10_11 _
  replace m11 : Blk ((Wg.setCell ⟨g11, 0, none⟩ (.int .i64 d0)).setCell ⟨g11, 1, none⟩ (.int .i64 d1)) g11 #[.int .i64 d0, .int .i64 d1] 161 := blk_put m11 1 _ rfl
  replace mB : Below w.heap.size w ((Wg.setCell ⟨g11, 0, none⟩ (.int .i64 d0)).setCell ⟨g11, 1, none⟩ (.int .i64 d1)) := mB.setCell (p := ⟨g11, 1, none⟩) hG11 _
  refine hK.out _ _ ?_
  clear hK K
  refine done_ zq1 ?_
  try clear hHeld
  generalize hW_ : ((Wg.setCell ⟨g11, 0, none⟩ (.int .i64 d0)).setCell ⟨g11, 1, none⟩ (.int .i64 d1)) = W2 at mT m6 m7 m9 m10 m11 mB ⊢
  clear hW_
  have hs_W2 : w.heap.size ≤ W2.heap.size := mB.size
  go_wp2_with fail
  replace mT := blk_drew mT
  replace m6 := blk_drew m6
  replace m7 := blk_drew m7
  replace m9 := blk_drew m9
  replace m10 := blk_drew m10
  replace m11 := blk_drew m11
  replace mB := below_drew1 mB
  refine start_ (n := 15) (S := fun w' => w'.cell? ⟨g7, 0, none⟩ = some (.int .i64 rb.f0.f0) ∧ w'.cell? ⟨g7, 1, none⟩ = some (.int .i64 rb.f0.f1) ∧ w'.cell? ⟨g7, 2, none⟩ = some (.int .i64 rb.f1.f0) ∧ w'.cell? ⟨g7, 3, none⟩ = some (.int .i64 rb.f1.f1) ∧ w'.cell? ⟨g9, 0, none⟩ = some (.int .i64 hd) ∧ w'.cell? ⟨g9, 1, none⟩ = some (.int .i64 layer) ∧ w'.cell? ⟨b, 10, none⟩ = some (.int .i64 v.dive)) (ds := [14]) #[false, false, false, false, false, false, false, false, false, false, false, false, false, false, false] zq1 rfl rfl ⟨((blk_cell m7 0).trans rfl), ((blk_cell m7 1).trans rfl), ((blk_cell m7 2).trans rfl), ((blk_cell m7 3).trans rfl), ((blk_cell m9 0).trans rfl), ((blk_cell m9 1).trans rfl), ((blk_cell mT 10).trans rfl)⟩ (fun hHeld => ?_)
  generalize hWd : World.drew _ = Wx at mT m6 m7 m9 m10 m11 mB hHeld ⊢
  clear hWd
  refine zpz (i := 0) (N := some 17) zq1 ?_
  refine zpz (i := 2) (N := some 19) zq1 ?_
  refine zpz (i := 4) (N := some 21) zq1 ?_
  refine zpz (i := 5) (N := some 22) zq1 ?_
  refine zpz (i := 6) (N := some 23) zq1 ?_
  refine zpz (i := 7) (N := some 24) zq1 ?_
  refine zpz (i := 8) (N := some 25) zq1 ?_
  refine zpz (i := 9) (N := some 26) zq1 ?_
  refine ztz (i := 1) (N := some 18) zq1 hHeld ?_
  refine ztz (i := 3) (N := some 20) zq1 hHeld ?_
  refine ztz (i := 10) (N := some 27) zq1 hHeld ?_
  refine zpz (i := 11) (N := some 28) zq1 ?_
  refine join_ (σ := Nat) 1 #[true, true, true, true, true, true, true, true, true, true, true, true, true, true, false] (fun s => [(29, .agg #[.int .i64 y.f0.f0, .int .i64 y.f0.f1, .int .i64 y.f1.f0, .int .i64 y.f1.f1]), (12, .pointer (some ⟨s, 0, none⟩))]) (fun s w' => Blk w' b #[.int .i64 se.nx, .int .i64 se.ny, .int .i64 se.cell, .int .i64 se.slot, .int .i64 se.slots, .int .i64 se.layers, .int .i64 se.most, .slice A7 se.shores.length c7, .slice A8 se.currents.length c8, .int .i64 v.speed, .int .i64 v.dive, .int .i64 v.use.f0, .int .i64 v.use.f1, .int .i64 v.drift.f0, .int .i64 v.drift.f1, .int .i64 v.reserve] 110 ∧ Blk w' g6 #[.int .i64 x.f0.f0, .int .i64 x.f0.f1, .int .i64 x.f1.f0, .int .i64 x.f1.f1] 31 ∧ Blk w' g7 #[.int .i64 rb.f0.f0, .int .i64 rb.f0.f1, .int .i64 rb.f1.f0, .int .i64 rb.f1.f1] 31 ∧ Blk w' g9 #[.int .i64 hd, .int .i64 layer] 33 ∧ Blk w' g10 #[.int .i64 0, .int .i64 0, .int .i64 0, .int .i64 0] 31 ∧ Blk w' g11 #[.int .i64 d0, .int .i64 d1] 161 ∧ Blk w' (s) #[.int .i64 0, .int .i64 0, .int .i64 0, .int .i64 0] 31 ∧ Below w.heap.size w w' ∧ w.heap.size ≤ s ∧ b ≠ s ∧ g6 ≠ s ∧ g7 ≠ s ∧ g9 ≠ s ∧ g10 ≠ s ∧ g11 ≠ s) ?_ ?_
  rotate_left
  · intro hCont
    refine two_ (i := 12) (j := 13) (Ni := some 29) (Nj := some 12) #[true, true, true, true, true, true, true, true, true, true, true, true, true, false, false] #[true, true, true, true, true, true, true, true, true, true, true, true, false, true, false] rfl rfl rfl rfl zq1 (by decide) (by decide) (fun K hK => ?_) (fun K hK => ?_)
    · skip
      have hcon_ := kA _ w1 (Wx) (hT.below mB)
      refine goes_ Try.func70 zq1 rfl #[.pointer (some ⟨b, 0, none⟩), .agg #[.int .i64 rb.f0.f0, .int .i64 rb.f0.f1, .int .i64 rb.f1.f0, .int .i64 rb.f1.f1], .int .i64 layer, .int .i64 t, .int .i64 (wrap64 (t + v.dive))] (by rfl) rfl rfl zq18 ?_
      with_reducible refine (hcon_).mono ?_
      rintro e w12 ⟨rfl, hb⟩
      refine ⟨_, rfl, ?_⟩
      clear hcon_
      replace mT := blk_below mT hb
      replace m6 := blk_below m6 hb
      replace m7 := blk_below m7 hb
      replace m9 := blk_below m9 hb
      replace m10 := blk_below m10 hb
      replace m11 := blk_below m11 hb
      replace mB := below_step mB hb
      clear hb
      refine hK.out _ _ ⟨((blk_cell m7 0).trans rfl), ((blk_cell m7 1).trans rfl), ((blk_cell m7 2).trans rfl), ((blk_cell m7 3).trans rfl), ((blk_cell m9 0).trans rfl), ((blk_cell m9 1).trans rfl), ((blk_cell mT 10).trans rfl)⟩ (fun hHeld => ?_)
      clear hK K
      refine norm_ zq27 ?_
      refine one_ (i := 13) (N := some 12) #[true, true, true, true, true, true, true, true, true, true, true, true, true, true, false] rfl rfl zq1 (by decide) (fun K hK => ?_)
      have hn_T_12 : b ≠ w12.heap.size := by have h_ := blk_lt mT; omega
      have hn_6_12 : g6 ≠ w12.heap.size := by have h_ := blk_lt m6; omega
      have hn_7_12 : g7 ≠ w12.heap.size := by have h_ := blk_lt m7; omega
      have hn_9_12 : g9 ≠ w12.heap.size := by have h_ := blk_lt m9; omega
      have hn_10_12 : g10 ≠ w12.heap.size := by have h_ := blk_lt m10; omega
      have hn_11_12 : g11 ≠ w12.heap.size := by have h_ := blk_lt m11; omega
      have hG12 : w.heap.size ≤ w12.heap.size := by have h_ := mB.size; omega
      replace mT := blk_alloc mT (.cells #[.int .i64 0, .int .i64 0, .int .i64 0, .int .i64 0] 31)
      replace m6 := blk_alloc m6 (.cells #[.int .i64 0, .int .i64 0, .int .i64 0, .int .i64 0] 31)
      replace m7 := blk_alloc m7 (.cells #[.int .i64 0, .int .i64 0, .int .i64 0, .int .i64 0] 31)
      replace m9 := blk_alloc m9 (.cells #[.int .i64 0, .int .i64 0, .int .i64 0, .int .i64 0] 31)
      replace m10 := blk_alloc m10 (.cells #[.int .i64 0, .int .i64 0, .int .i64 0, .int .i64 0] 31)
      replace m11 := blk_alloc m11 (.cells #[.int .i64 0, .int .i64 0, .int .i64 0, .int .i64 0] 31)
      have m12 : Blk (w12.alloc (.cells #[.int .i64 0, .int .i64 0, .int .i64 0, .int .i64 0] 31)) (w12.heap.size) #[.int .i64 0, .int .i64 0, .int .i64 0, .int .i64 0] 31 := by have h_ := blk_new w12 (.cells #[.int .i64 0, .int .i64 0, .int .i64 0, .int .i64 0] 31); first | exact h_ | (simp only [World.size_alloc] at h_; exact h_)
      replace mB := below_alloc mB (.cells #[.int .i64 0, .int .i64 0, .int .i64 0, .int .i64 0] 31)
      refine value_ (w1 := ?_) (v := ?_) (by rfl) rfl ?_ ?_
      rotate_left 2
      · go_simp
        constructor
        · rfl
        · rfl
      refine hK.out _ _ ⟨((blk_cell m7 0).trans rfl), ((blk_cell m7 1).trans rfl), ((blk_cell m7 2).trans rfl), ((blk_cell m7 3).trans rfl), ((blk_cell m9 0).trans rfl), ((blk_cell m9 1).trans rfl), ((blk_cell mT 10).trans rfl)⟩ (fun hHeld => ?_)
      clear hK K
      refine norm_ zq28 ?_
      exact norm_ zq26 (hCont (w12.heap.size) _ ⟨mT, m6, m7, m9, m10, m11, m12, mB, hG12, hn_T_12, hn_6_12, hn_7_12, hn_9_12, hn_10_12, hn_11_12⟩)
    · skip
      have hn_T_12 : b ≠ Wx.heap.size := by have h_ := blk_lt mT; omega
      have hn_6_12 : g6 ≠ Wx.heap.size := by have h_ := blk_lt m6; omega
      have hn_7_12 : g7 ≠ Wx.heap.size := by have h_ := blk_lt m7; omega
      have hn_9_12 : g9 ≠ Wx.heap.size := by have h_ := blk_lt m9; omega
      have hn_10_12 : g10 ≠ Wx.heap.size := by have h_ := blk_lt m10; omega
      have hn_11_12 : g11 ≠ Wx.heap.size := by have h_ := blk_lt m11; omega
      have hG12 : w.heap.size ≤ Wx.heap.size := by have h_ := mB.size; omega
      replace mT := blk_alloc mT (.cells #[.int .i64 0, .int .i64 0, .int .i64 0, .int .i64 0] 31)
      replace m6 := blk_alloc m6 (.cells #[.int .i64 0, .int .i64 0, .int .i64 0, .int .i64 0] 31)
      replace m7 := blk_alloc m7 (.cells #[.int .i64 0, .int .i64 0, .int .i64 0, .int .i64 0] 31)
      replace m9 := blk_alloc m9 (.cells #[.int .i64 0, .int .i64 0, .int .i64 0, .int .i64 0] 31)
      replace m10 := blk_alloc m10 (.cells #[.int .i64 0, .int .i64 0, .int .i64 0, .int .i64 0] 31)
      replace m11 := blk_alloc m11 (.cells #[.int .i64 0, .int .i64 0, .int .i64 0, .int .i64 0] 31)
      have m12 : Blk (Wx.alloc (.cells #[.int .i64 0, .int .i64 0, .int .i64 0, .int .i64 0] 31)) (Wx.heap.size) #[.int .i64 0, .int .i64 0, .int .i64 0, .int .i64 0] 31 := by have h_ := blk_new Wx (.cells #[.int .i64 0, .int .i64 0, .int .i64 0, .int .i64 0] 31); first | exact h_ | (simp only [World.size_alloc] at h_; exact h_)
      replace mB := below_alloc mB (.cells #[.int .i64 0, .int .i64 0, .int .i64 0, .int .i64 0] 31)
      refine value_ (w1 := ?_) (v := ?_) (by rfl) rfl ?_ ?_
      rotate_left 2
      · go_simp
        constructor
        · rfl
        · rfl
      refine hK.out _ _ ⟨((blk_cell m7 0).trans rfl), ((blk_cell m7 1).trans rfl), ((blk_cell m7 2).trans rfl), ((blk_cell m7 3).trans rfl), ((blk_cell m9 0).trans rfl), ((blk_cell m9 1).trans rfl), ((blk_cell mT 10).trans rfl)⟩ (fun hHeld => ?_)
      clear hK K
      refine norm_ zq28 ?_
      refine one_ (i := 12) (N := some 29) #[true, true, true, true, true, true, true, true, true, true, true, true, true, true, false] rfl rfl zq1 (by decide) (fun K hK => ?_)
      have hcon_ := kA _ w1 ((Wx.alloc (.cells #[.int .i64 0, .int .i64 0, .int .i64 0, .int .i64 0] 31))) (hT.below mB)
      refine goes_ Try.func70 zq1 rfl #[.pointer (some ⟨b, 0, none⟩), .agg #[.int .i64 rb.f0.f0, .int .i64 rb.f0.f1, .int .i64 rb.f1.f0, .int .i64 rb.f1.f1], .int .i64 layer, .int .i64 t, .int .i64 (wrap64 (t + v.dive))] (by rfl) rfl rfl zq18 ?_
      with_reducible refine (hcon_).mono ?_
      rintro e w12 ⟨rfl, hb⟩
      refine ⟨_, rfl, ?_⟩
      clear hcon_
      replace mT := blk_below mT hb
      replace m6 := blk_below m6 hb
      replace m7 := blk_below m7 hb
      replace m9 := blk_below m9 hb
      replace m10 := blk_below m10 hb
      replace m11 := blk_below m11 hb
      replace m12 := blk_below m12 hb
      replace mB := below_step mB hb
      clear hb
      refine hK.out _ _ ⟨((blk_cell m7 0).trans rfl), ((blk_cell m7 1).trans rfl), ((blk_cell m7 2).trans rfl), ((blk_cell m7 3).trans rfl), ((blk_cell m9 0).trans rfl), ((blk_cell m9 1).trans rfl), ((blk_cell mT 10).trans rfl)⟩ (fun hHeld => ?_)
      clear hK K
      refine norm_ zq27 ?_
      exact norm_ zq26 (hCont (Wx.heap.size) _ ⟨mT, m6, m7, m9, m10, m11, m12, mB, hG12, hn_T_12, hn_6_12, hn_7_12, hn_9_12, hn_10_12, hn_11_12⟩)
  rintro g12 Wg ⟨mT, m6, m7, m9, m10, m11, m12, mB, hG12, hn_T_12, hn_6_12, hn_7_12, hn_9_12, hn_10_12, hn_11_12⟩
  have hHeld : (Wg.cell? ⟨g7, 0, none⟩ = some (.int .i64 rb.f0.f0) ∧ Wg.cell? ⟨g7, 1, none⟩ = some (.int .i64 rb.f0.f1) ∧ Wg.cell? ⟨g7, 2, none⟩ = some (.int .i64 rb.f1.f0) ∧ Wg.cell? ⟨g7, 3, none⟩ = some (.int .i64 rb.f1.f1) ∧ Wg.cell? ⟨g9, 0, none⟩ = some (.int .i64 hd) ∧ Wg.cell? ⟨g9, 1, none⟩ = some (.int .i64 layer) ∧ Wg.cell? ⟨b, 10, none⟩ = some (.int .i64 v.dive)) := ⟨((blk_cell m7 0).trans rfl), ((blk_cell m7 1).trans rfl), ((blk_cell m7 2).trans rfl), ((blk_cell m7 3).trans rfl), ((blk_cell m9 0).trans rfl), ((blk_cell m9 1).trans rfl), ((blk_cell mT 10).trans rfl)⟩
  refine norm_ (a' := ?_) ?_ ?_
  rotate_left
  · simp only [putAll, Act.put, List.setIfInBounds_toArray, List.set_cons_zero, List.set_cons_succ]
    rfl
  refine last_ (i := 14) (N := none) #[true, true, true, true, true, true, true, true, true, true, true, true, true, true, true] rfl rfl zq1 (by decide) (fun K hK => ?_)
  have hf0_ := blk_frozen m12 0
  have hc0_ := (blk_cell m12 0).trans rfl
  have hf1_ := blk_frozen m12 1
  have hc1_ := (blk_cell m12 1).trans rfl
  have hf2_ := blk_frozen m12 2
  have hc2_ := (blk_cell m12 2).trans rfl
  have hf3_ := blk_frozen m12 3
  have hc3_ := (blk_cell m12 3).trans rfl
  refine skip_ (w1 := ?_) (by rfl) rfl ?_ ?_
  rotate_left
  · go_simp
    rfl
  clear hf0_ hc0_ hf1_ hc1_ hf2_ hc2_ hf3_ hc3_
  replace mT : Blk (Wg.setCell ⟨g12, 0, none⟩ (.int .i64 y.f0.f0)) b #[.int .i64 se.nx, .int .i64 se.ny, .int .i64 se.cell, .int .i64 se.slot, .int .i64 se.slots, .int .i64 se.layers, .int .i64 se.most, .slice A7 se.shores.length c7, .slice A8 se.currents.length c8, .int .i64 v.speed, .int .i64 v.dive, .int .i64 v.use.f0, .int .i64 v.use.f1, .int .i64 v.drift.f0, .int .i64 v.drift.f1, .int .i64 v.reserve] 110 := blk_far (p := ⟨g12, 0, none⟩) mT hn_T_12 _
  replace m6 : Blk (Wg.setCell ⟨g12, 0, none⟩ (.int .i64 y.f0.f0)) g6 #[.int .i64 x.f0.f0, .int .i64 x.f0.f1, .int .i64 x.f1.f0, .int .i64 x.f1.f1] 31 := blk_far (p := ⟨g12, 0, none⟩) m6 hn_6_12 _
  replace m7 : Blk (Wg.setCell ⟨g12, 0, none⟩ (.int .i64 y.f0.f0)) g7 #[.int .i64 rb.f0.f0, .int .i64 rb.f0.f1, .int .i64 rb.f1.f0, .int .i64 rb.f1.f1] 31 := blk_far (p := ⟨g12, 0, none⟩) m7 hn_7_12 _
  replace m9 : Blk (Wg.setCell ⟨g12, 0, none⟩ (.int .i64 y.f0.f0)) g9 #[.int .i64 hd, .int .i64 layer] 33 := blk_far (p := ⟨g12, 0, none⟩) m9 hn_9_12 _
  replace m10 : Blk (Wg.setCell ⟨g12, 0, none⟩ (.int .i64 y.f0.f0)) g10 #[.int .i64 0, .int .i64 0, .int .i64 0, .int .i64 0] 31 := blk_far (p := ⟨g12, 0, none⟩) m10 hn_10_12 _
  replace m11 : Blk (Wg.setCell ⟨g12, 0, none⟩ (.int .i64 y.f0.f0)) g11 #[.int .i64 d0, .int .i64 d1] 161 := blk_far (p := ⟨g12, 0, none⟩) m11 hn_11_12 _
  replace m12 : Blk (Wg.setCell ⟨g12, 0, none⟩ (.int .i64 y.f0.f0)) g12 #[.int .i64 y.f0.f0, .int .i64 0, .int .i64 0, .int .i64 0] 31 := blk_put m12 0 _ rfl
  replace mB : Below w.heap.size w (Wg.setCell ⟨g12, 0, none⟩ (.int .i64 y.f0.f0)) := mB.setCell (p := ⟨g12, 0, none⟩) hG12 _
  replace mT : Blk ((Wg.setCell ⟨g12, 0, none⟩ (.int .i64 y.f0.f0)).setCell ⟨g12, 1, none⟩ (.int .i64 y.f0.f1)) b #[.int .i64 se.nx, .int .i64 se.ny, .int .i64 se.cell, .int .i64 se.slot, .int .i64 se.slots, .int .i64 se.layers, .int .i64 se.most, .slice A7 se.shores.length c7, .slice A8 se.currents.length c8, .int .i64 v.speed, .int .i64 v.dive, .int .i64 v.use.f0, .int .i64 v.use.f1, .int .i64 v.drift.f0, .int .i64 v.drift.f1, .int .i64 v.reserve] 110 := blk_far (p := ⟨g12, 1, none⟩) mT hn_T_12 _
  replace m6 : Blk ((Wg.setCell ⟨g12, 0, none⟩ (.int .i64 y.f0.f0)).setCell ⟨g12, 1, none⟩ (.int .i64 y.f0.f1)) g6 #[.int .i64 x.f0.f0, .int .i64 x.f0.f1, .int .i64 x.f1.f0, .int .i64 x.f1.f1] 31 := blk_far (p := ⟨g12, 1, none⟩) m6 hn_6_12 _
  replace m7 : Blk ((Wg.setCell ⟨g12, 0, none⟩ (.int .i64 y.f0.f0)).setCell ⟨g12, 1, none⟩ (.int .i64 y.f0.f1)) g7 #[.int .i64 rb.f0.f0, .int .i64 rb.f0.f1, .int .i64 rb.f1.f0, .int .i64 rb.f1.f1] 31 := blk_far (p := ⟨g12, 1, none⟩) m7 hn_7_12 _
  replace m9 : Blk ((Wg.setCell ⟨g12, 0, none⟩ (.int .i64 y.f0.f0)).setCell ⟨g12, 1, none⟩ (.int .i64 y.f0.f1)) g9 #[.int .i64 hd, .int .i64 layer] 33 := blk_far (p := ⟨g12, 1, none⟩) m9 hn_9_12 _
  replace m10 : Blk ((Wg.setCell ⟨g12, 0, none⟩ (.int .i64 y.f0.f0)).setCell ⟨g12, 1, none⟩ (.int .i64 y.f0.f1)) g10 #[.int .i64 0, .int .i64 0, .int .i64 0, .int .i64 0] 31 := blk_far (p := ⟨g12, 1, none⟩) m10 hn_10_12 _
  replace m11 : Blk ((Wg.setCell ⟨g12, 0, none⟩ (.int .i64 y.f0.f0)).setCell ⟨g12, 1, none⟩ (.int .i64 y.f0.f1)) g11 #[.int .i64 d0, .int .i64 d1] 161 := blk_far (p := ⟨g12, 1, none⟩) m11 hn_11_12 _
  replace m12 : Blk ((Wg.setCell ⟨g12, 0, none⟩ (.int .i64 y.f0.f0)).setCell ⟨g12, 1, none⟩ (.int .i64 y.f0.f1)) g12 #[.int .i64 y.f0.f0, .int .i64 y.f0.f1, .int .i64 0, .int .i64 0] 31 := blk_put m12 1 _ rfl
  replace mB : Below w.heap.size w ((Wg.setCell ⟨g12, 0, none⟩ (.int .i64 y.f0.f0)).setCell ⟨g12, 1, none⟩ (.int .i64 y.f0.f1)) := mB.setCell (p := ⟨g12, 1, none⟩) hG12 _
  replace mT : Blk (((Wg.setCell ⟨g12, 0, none⟩ (.int .i64 y.f0.f0)).setCell ⟨g12, 1, none⟩ (.int .i64 y.f0.f1)).setCell ⟨g12, 2, none⟩ (.int .i64 y.f1.f0)) b #[.int .i64 se.nx, .int .i64 se.ny, .int .i64 se.cell, .int .i64 se.slot, .int .i64 se.slots, .int .i64 se.layers, .int .i64 se.most, .slice A7 se.shores.length c7, .slice A8 se.currents.length c8, .int .i64 v.speed, .int .i64 v.dive, .int .i64 v.use.f0, .int .i64 v.use.f1, .int .i64 v.drift.f0, .int .i64 v.drift.f1, .int .i64 v.reserve] 110 := blk_far (p := ⟨g12, 2, none⟩) mT hn_T_12 _
  replace m6 : Blk (((Wg.setCell ⟨g12, 0, none⟩ (.int .i64 y.f0.f0)).setCell ⟨g12, 1, none⟩ (.int .i64 y.f0.f1)).setCell ⟨g12, 2, none⟩ (.int .i64 y.f1.f0)) g6 #[.int .i64 x.f0.f0, .int .i64 x.f0.f1, .int .i64 x.f1.f0, .int .i64 x.f1.f1] 31 := blk_far (p := ⟨g12, 2, none⟩) m6 hn_6_12 _
  replace m7 : Blk (((Wg.setCell ⟨g12, 0, none⟩ (.int .i64 y.f0.f0)).setCell ⟨g12, 1, none⟩ (.int .i64 y.f0.f1)).setCell ⟨g12, 2, none⟩ (.int .i64 y.f1.f0)) g7 #[.int .i64 rb.f0.f0, .int .i64 rb.f0.f1, .int .i64 rb.f1.f0, .int .i64 rb.f1.f1] 31 := blk_far (p := ⟨g12, 2, none⟩) m7 hn_7_12 _
  replace m9 : Blk (((Wg.setCell ⟨g12, 0, none⟩ (.int .i64 y.f0.f0)).setCell ⟨g12, 1, none⟩ (.int .i64 y.f0.f1)).setCell ⟨g12, 2, none⟩ (.int .i64 y.f1.f0)) g9 #[.int .i64 hd, .int .i64 layer] 33 := blk_far (p := ⟨g12, 2, none⟩) m9 hn_9_12 _
  replace m10 : Blk (((Wg.setCell ⟨g12, 0, none⟩ (.int .i64 y.f0.f0)).setCell ⟨g12, 1, none⟩ (.int .i64 y.f0.f1)).setCell ⟨g12, 2, none⟩ (.int .i64 y.f1.f0)) g10 #[.int .i64 0, .int .i64 0, .int .i64 0, .int .i64 0] 31 := blk_far (p := ⟨g12, 2, none⟩) m10 hn_10_12 _
  replace m11 : Blk (((Wg.setCell ⟨g12, 0, none⟩ (.int .i64 y.f0.f0)).setCell ⟨g12, 1, none⟩ (.int .i64 y.f0.f1)).setCell ⟨g12, 2, none⟩ (.int .i64 y.f1.f0)) g11 #[.int .i64 d0, .int .i64 d1] 161 := blk_far (p := ⟨g12, 2, none⟩) m11 hn_11_12 _
  replace m12 : Blk (((Wg.setCell ⟨g12, 0, none⟩ (.int .i64 y.f0.f0)).setCell ⟨g12, 1, none⟩ (.int .i64 y.f0.f1)).setCell ⟨g12, 2, none⟩ (.int .i64 y.f1.f0)) g12 #[.int .i64 y.f0.f0, .int .i64 y.f0.f1, .int .i64 y.f1.f0, .int .i64 0] 31 := blk_put m12 2 _ rfl
  replace mB : Below w.heap.size w (((Wg.setCell ⟨g12, 0, none⟩ (.int .i64 y.f0.f0)).setCell ⟨g12, 1, none⟩ (.int .i64 y.f0.f1)).setCell ⟨g12, 2, none⟩ (.int .i64 y.f1.f0)) := mB.setCell (p := ⟨g12, 2, none⟩) hG12 _
  replace mT : Blk ((((Wg.setCell ⟨g12, 0, none⟩ (.int .i64 y.f0.f0)).setCell ⟨g12, 1, none⟩ (.int .i64 y.f0.f1)).setCell ⟨g12, 2, none⟩ (.int .i64 y.f1.f0)).setCell ⟨g12, 3, none⟩ (.int .i64 y.f1.f1)) b #[.int .i64 se.nx, .int .i64 se.ny, .int .i64 se.cell, .int .i64 se.slot, .int .i64 se.slots, .int .i64 se.layers, .int .i64 se.most, .slice A7 se.shores.length c7, .slice A8 se.currents.length c8, .int .i64 v.speed, .int .i64 v.dive, .int .i64 v.use.f0, .int .i64 v.use.f1, .int .i64 v.drift.f0, .int .i64 v.drift.f1, .int .i64 v.reserve] 110 := blk_far (p := ⟨g12, 3, none⟩) mT hn_T_12 _
  replace m6 : Blk ((((Wg.setCell ⟨g12, 0, none⟩ (.int .i64 y.f0.f0)).setCell ⟨g12, 1, none⟩ (.int .i64 y.f0.f1)).setCell ⟨g12, 2, none⟩ (.int .i64 y.f1.f0)).setCell ⟨g12, 3, none⟩ (.int .i64 y.f1.f1)) g6 #[.int .i64 x.f0.f0, .int .i64 x.f0.f1, .int .i64 x.f1.f0, .int .i64 x.f1.f1] 31 := blk_far (p := ⟨g12, 3, none⟩) m6 hn_6_12 _
  replace m7 : Blk ((((Wg.setCell ⟨g12, 0, none⟩ (.int .i64 y.f0.f0)).setCell ⟨g12, 1, none⟩ (.int .i64 y.f0.f1)).setCell ⟨g12, 2, none⟩ (.int .i64 y.f1.f0)).setCell ⟨g12, 3, none⟩ (.int .i64 y.f1.f1)) g7 #[.int .i64 rb.f0.f0, .int .i64 rb.f0.f1, .int .i64 rb.f1.f0, .int .i64 rb.f1.f1] 31 := blk_far (p := ⟨g12, 3, none⟩) m7 hn_7_12 _
  replace m9 : Blk ((((Wg.setCell ⟨g12, 0, none⟩ (.int .i64 y.f0.f0)).setCell ⟨g12, 1, none⟩ (.int .i64 y.f0.f1)).setCell ⟨g12, 2, none⟩ (.int .i64 y.f1.f0)).setCell ⟨g12, 3, none⟩ (.int .i64 y.f1.f1)) g9 #[.int .i64 hd, .int .i64 layer] 33 := blk_far (p := ⟨g12, 3, none⟩) m9 hn_9_12 _
  replace m10 : Blk ((((Wg.setCell ⟨g12, 0, none⟩ (.int .i64 y.f0.f0)).setCell ⟨g12, 1, none⟩ (.int .i64 y.f0.f1)).setCell ⟨g12, 2, none⟩ (.int .i64 y.f1.f0)).setCell ⟨g12, 3, none⟩ (.int .i64 y.f1.f1)) g10 #[.int .i64 0, .int .i64 0, .int .i64 0, .int .i64 0] 31 := blk_far (p := ⟨g12, 3, none⟩) m10 hn_10_12 _
  replace m11 : Blk ((((Wg.setCell ⟨g12, 0, none⟩ (.int .i64 y.f0.f0)).setCell ⟨g12, 1, none⟩ (.int .i64 y.f0.f1)).setCell ⟨g12, 2, none⟩ (.int .i64 y.f1.f0)).setCell ⟨g12, 3, none⟩ (.int .i64 y.f1.f1)) g11 #[.int .i64 d0, .int .i64 d1] 161 := blk_far (p := ⟨g12, 3, none⟩) m11 hn_11_12 _
  replace m12 : Blk ((((Wg.setCell ⟨g12, 0, none⟩ (.int .i64 y.f0.f0)).setCell ⟨g12, 1, none⟩ (.int .i64 y.f0.f1)).setCell ⟨g12, 2, none⟩ (.int .i64 y.f1.f0)).setCell ⟨g12, 3, none⟩ (.int .i64 y.f1.f1)) g12 #[.int .i64 y.f0.f0, .int .i64 y.f0.f1, .int .i64 y.f1.f0, .int .i64 y.f1.f1] 31 := blk_put m12 3 _ rfl
  replace mB : Below w.heap.size w ((((Wg.setCell ⟨g12, 0, none⟩ (.int .i64 y.f0.f0)).setCell ⟨g12, 1, none⟩ (.int .i64 y.f0.f1)).setCell ⟨g12, 2, none⟩ (.int .i64 y.f1.f0)).setCell ⟨g12, 3, none⟩ (.int .i64 y.f1.f1)) := mB.setCell (p := ⟨g12, 3, none⟩) hG12 _
  refine hK.out _ _ ?_
  clear hK K
  refine done_ zq1 ?_
  try clear hHeld
  generalize hW_ : ((((Wg.setCell ⟨g12, 0, none⟩ (.int .i64 y.f0.f0)).setCell ⟨g12, 1, none⟩ (.int .i64 y.f0.f1)).setCell ⟨g12, 2, none⟩ (.int .i64 y.f1.f0)).setCell ⟨g12, 3, none⟩ (.int .i64 y.f1.f1)) = W3 at mT m6 m7 m9 m10 m11 m12 mB ⊢
  clear hW_
  have hs_W3 : w.heap.size ≤ W3.heap.size := mB.size
  go_wp2_with fail
  replace mT := blk_drew mT
  replace m6 := blk_drew m6
  replace m7 := blk_drew m7
  replace m9 := blk_drew m9
  replace m10 := blk_drew m10
  replace m11 := blk_drew m11
  replace m12 := blk_drew m12
  replace mB := below_drew1 mB
  refine start_ (n := 30) (S := fun w' => w'.cell? ⟨g6, 0, none⟩ = some (.int .i64 x.f0.f0) ∧ w'.cell? ⟨g6, 1, none⟩ = some (.int .i64 x.f0.f1) ∧ w'.cell? ⟨g6, 2, none⟩ = some (.int .i64 x.f1.f0) ∧ w'.cell? ⟨g6, 3, none⟩ = some (.int .i64 x.f1.f1) ∧ w'.cell? ⟨g11, 0, none⟩ = some (.int .i64 d0) ∧ w'.cell? ⟨g11, 1, none⟩ = some (.int .i64 d1) ∧ w'.cell? ⟨g12, 0, none⟩ = some (.int .i64 y.f0.f0) ∧ w'.cell? ⟨g12, 1, none⟩ = some (.int .i64 y.f0.f1) ∧ w'.cell? ⟨g12, 2, none⟩ = some (.int .i64 y.f1.f0) ∧ w'.cell? ⟨g12, 3, none⟩ = some (.int .i64 y.f1.f1) ∧ w'.cell? ⟨b, 9, none⟩ = some (.int .i64 v.speed)) (ds := [29]) #[false, false, false, false, false, false, false, false, false, false, false, false, false, false, false, false, false, false, false, false, false, false, false, false, false, false, false, false, false, false] zq1 rfl rfl ⟨((blk_cell m6 0).trans rfl), ((blk_cell m6 1).trans rfl), ((blk_cell m6 2).trans rfl), ((blk_cell m6 3).trans rfl), ((blk_cell m11 0).trans rfl), ((blk_cell m11 1).trans rfl), ((blk_cell m12 0).trans rfl), ((blk_cell m12 1).trans rfl), ((blk_cell m12 2).trans rfl), ((blk_cell m12 3).trans rfl), ((blk_cell mT 9).trans rfl)⟩ (fun hHeld => ?_)
  generalize hWd : World.drew _ = Wx at mT m6 m7 m9 m10 m11 m12 mB hHeld ⊢
  clear hWd
  refine zpz (i := 0) (N := some 30) zq1 ?_
  refine zpz (i := 1) (N := some 31) zq1 ?_
  refine zpz (i := 3) (N := some 33) zq1 ?_
  refine zpz (i := 5) (N := some 35) zq1 ?_
  refine zpz (i := 6) (N := some 36) zq1 ?_
  refine zpz (i := 7) (N := some 37) zq1 ?_
  refine zpz (i := 8) (N := some 38) zq1 ?_
  refine zpz (i := 11) (N := some 41) zq1 ?_
  refine zpz (i := 14) (N := some 44) zq1 ?_
  refine zpz (i := 15) (N := some 45) zq1 ?_
  refine zpz (i := 17) (N := some 47) zq1 ?_
  refine zpz (i := 19) (N := some 49) zq1 ?_
  refine zpz (i := 20) (N := some 50) zq1 ?_
  refine zpz (i := 21) (N := some 51) zq1 ?_
  refine zpz (i := 22) (N := some 52) zq1 ?_
  refine zpz (i := 25) (N := some 55) zq1 ?_
  refine ztz (i := 2) (N := some 32) zq1 hHeld ?_
  refine ztz (i := 4) (N := some 34) zq1 hHeld ?_
  refine ztz (i := 9) (N := some 39) zq1 hHeld ?_
  refine zpz (i := 10) (N := some 40) zq1 ?_
  refine ztz (i := 12) (N := some 42) zq1 hHeld ?_
  refine ztz (i := 16) (N := some 46) zq1 hHeld ?_
  refine ztz (i := 18) (N := some 48) zq1 hHeld ?_
  refine ztz (i := 23) (N := some 53) zq1 hHeld ?_
  refine zpz (i := 24) (N := some 54) zq1 ?_
  refine ztz (i := 26) (N := some 56) zq1 hHeld ?_
  refine one_ (i := 13) (N := some 43) #[true, true, true, true, true, true, true, true, true, true, true, true, true, true, true, true, true, true, true, true, true, true, true, true, true, true, true, false, false, false] rfl rfl zq1 (by decide) (fun K hK => ?_)
  have hcon_ := kS0 _ w2 Wx (hT.below mB)
  refine goes_ Try.func131 zq1 rfl #[.pointer (some ⟨b, 0, none⟩), .agg #[.int .i64 x.f0.f0, .int .i64 x.f0.f1], .int .i64 (wrap64 (d0 * v.speed)), .agg #[.int .i64 y.f0.f0, .int .i64 y.f0.f1]] (by rfl) rfl rfl zq18 ?_
  with_reducible refine (hcon_).mono ?_
  rintro e w13 ⟨rfl, hb⟩
  refine ⟨_, rfl, ?_⟩
  clear hcon_
  replace mT := blk_below mT hb
  replace m6 := blk_below m6 hb
  replace m7 := blk_below m7 hb
  replace m9 := blk_below m9 hb
  replace m10 := blk_below m10 hb
  replace m11 := blk_below m11 hb
  replace m12 := blk_below m12 hb
  replace mB := below_step mB hb
  clear hb
  refine hK.out _ _ ⟨((blk_cell m6 0).trans rfl), ((blk_cell m6 1).trans rfl), ((blk_cell m6 2).trans rfl), ((blk_cell m6 3).trans rfl), ((blk_cell m11 0).trans rfl), ((blk_cell m11 1).trans rfl), ((blk_cell m12 0).trans rfl), ((blk_cell m12 1).trans rfl), ((blk_cell m12 2).trans rfl), ((blk_cell m12 3).trans rfl), ((blk_cell mT 9).trans rfl)⟩ (fun hHeld => ?_)
  clear hK K
  refine norm_ (by show Act.put _ (some 43) _ = _; simp only [Act.put, List.setIfInBounds_toArray, List.set_cons_zero, List.set_cons_succ, i64_w, i32_w]; rfl) ?_
  refine one_ (i := 27) (N := some 57) #[true, true, true, true, true, true, true, true, true, true, true, true, true, true, true, true, true, true, true, true, true, true, true, true, true, true, true, true, false, false] rfl rfl zq1 (by decide) (fun K hK => ?_)
  have hcon_ := kS1 _ w3 w13 (hT.below mB)
  refine goes_ Try.func131 zq1 rfl #[.pointer (some ⟨b, 0, none⟩), .agg #[.int .i64 x.f1.f0, .int .i64 x.f1.f1], .int .i64 (wrap64 (d1 * v.speed)), .agg #[.int .i64 y.f1.f0, .int .i64 y.f1.f1]] (by rfl) rfl rfl zq18 ?_
  with_reducible refine (hcon_).mono ?_
  rintro e w27 ⟨rfl, hb⟩
  refine ⟨_, rfl, ?_⟩
  clear hcon_
  replace mT := blk_below mT hb
  replace m6 := blk_below m6 hb
  replace m7 := blk_below m7 hb
  replace m9 := blk_below m9 hb
  replace m10 := blk_below m10 hb
  replace m11 := blk_below m11 hb
  replace m12 := blk_below m12 hb
  replace mB := below_step mB hb
  clear hb
  refine hK.out _ _ ⟨((blk_cell m6 0).trans rfl), ((blk_cell m6 1).trans rfl), ((blk_cell m6 2).trans rfl), ((blk_cell m6 3).trans rfl), ((blk_cell m11 0).trans rfl), ((blk_cell m11 1).trans rfl), ((blk_cell m12 0).trans rfl), ((blk_cell m12 1).trans rfl), ((blk_cell m12 2).trans rfl), ((blk_cell m12 3).trans rfl), ((blk_cell mT 9).trans rfl)⟩ (fun hHeld => ?_)
  clear hK K
  refine norm_ (by show Act.put _ (some 57) _ = _; simp only [Act.put, List.setIfInBounds_toArray, List.set_cons_zero, List.set_cons_succ, i64_w, i32_w]; rfl) ?_
  refine zpz (i := 28) (N := some 58) zq1 ?_
  refine last_ (i := 29) (N := none) #[true, true, true, true, true, true, true, true, true, true, true, true, true, true, true, true, true, true, true, true, true, true, true, true, true, true, true, true, true, true] rfl rfl zq1 (by decide) (fun K hK => ?_)
  have hf0_ := blk_frozen m10 0
  have hf1_ := blk_frozen m10 1
  have hf2_ := blk_frozen m10 2
  have hf3_ := blk_frozen m10 3
  have hc0_ := (blk_cell m10 0).trans rfl
  have hc1_ := (blk_cell m10 1).trans rfl
  have hc2_ := (blk_cell m10 2).trans rfl
  have hc3_ := (blk_cell m10 3).trans rfl
  refine skip_ (w1 := ?_) (by rfl) rfl ?_ ?_
  rotate_left
  · go_simp
    rfl
  refine hK.out _ _ ?_
  clear hK K
  refine done_ zq1 ?_
  go_wp2
  exact bodyPost_ret (results_cell_row rfl _ _ g10 31 #[.int .i64 (shiftI v.dive x.f0 (d0 * v.speed) y.f0).f0, .int .i64 (shiftI v.dive x.f0 (d0 * v.speed) y.f0).f1, .int .i64 (shiftI v.dive x.f1 (d1 * v.speed) y.f1).f0, .int .i64 (shiftI v.dive x.f1 (d1 * v.speed) y.f1).f1] (0, 0) _ rfl (blk_put (blk_put (blk_put (blk_put m10 0 (.int .i64 (shiftI v.dive x.f0 (d0 * v.speed) y.f0).f0) rfl) 1 (.int .i64 (shiftI v.dive x.f0 (d0 * v.speed) y.f0).f1) rfl) 2 (.int .i64 (shiftI v.dive x.f1 (d1 * v.speed) y.f1).f0) rfl) 3 (.int .i64 (shiftI v.dive x.f1 (d1 * v.speed) y.f1).f1) rfl) Try.underlying31 rfl zq1) rfl ⟨by rw [HR.out], (Below.setCell (p := ⟨g10, 3, none⟩) (Below.setCell (p := ⟨g10, 2, none⟩) (Below.setCell (p := ⟨g10, 1, none⟩) (Below.setCell (p := ⟨g10, 0, none⟩) mB hG10 _) hG10 _) hG10 _) hG10 _)⟩
end Go.Proofs.Ytmhaiihjfgfaoaa.Gl
end
section
/- A dive. -/
namespace Go.Proofs.Ytmhaiihjfgfaoaa.Gl
open Go.RowKit Go.Shelf Go.Proofs.YtmhaiihjfgfaoaaW.PrintWords Go.Proofs.YtmhaiihjfgfaoaaW.PrintLast Go.Proofs.YtmhaiihjfgfaoaaW.PrintMore Go.Proofs.Ytmhaiihjfgfaoaa.Pr Go.Proofs.YtmhaiihjfgfaoaaW.Round
set_option linter.unusedVariables false
set_option linter.unusedSimpArgs false
attribute [local go_sem] max2_int min2_int max_two min_two max_four
/-- A valid sea. -/
structure SeaV (s : Sea) : Prop where
  n : SeaN s
  sh : (s.shores.length : Int) = s.nx * s.ny
  cu : (s.currents.length : Int) = s.slots * s.layers * (s.nx * s.ny)
  cb : CurB s
/-- A box whose numbers are in order and not too large. -/
def BoxOK (x : S31) : Prop := SmallB x ∧ x.f0.f0 ≤ x.f0.f1 ∧ x.f1.f0 ≤ x.f1.f1
theorem reach_ok {s : Sea} {v : Veh} {x : S31} {t : Int} (hS : SeaN s) (hV : VehN v) (hx : BoxOK x) (h : reachE s v x t = 0) : InSea s (grownI s v x) ∧ (0 ≤ t ∧ t + v.dive ≤ s.slots * s.slot) ∧ (0 ≤ x.f0.f0 ∧ x.f0.f1 ≤ 1000000) ∧ (0 ≤ x.f1.f0 ∧ x.f1.f1 ≤ 1000000) := by
  have hm := hS.most
  have hsp := hV.speed
  have hdv := hV.dive
  have p1 := mul_in (show 0 ≤ v.speed + s.most by omega) (show v.speed + s.most ≤ 10000 by omega) (show 0 ≤ v.dive by omega) hdv.2
  have p2 := mul_in (show 0 ≤ s.nx by have := hS.nx; omega) hS.nx.2 (show 0 ≤ s.cell by have := hS.cell; omega) hS.cell.2
  have p3 := mul_in (show 0 ≤ s.ny by have := hS.ny; omega) hS.ny.2 (show 0 ≤ s.cell by have := hS.cell; omega) hS.cell.2
  obtain ⟨⟨x0, x1, x2, x3⟩, x4, x5⟩ := hx
  unfold reachE at h
  have hc : containsI s (grownI s v x) = true ∧ knownI s t (t + v.dive) = true := by
    by_cases hb : (containsI s (grownI s v x) && knownI s t (t + v.dive)) = true
    · exact Bool.and_eq_true_iff.1 hb
    · rw [if_neg hb] at h
      cases h
  obtain ⟨h1, h2⟩ := hc
  unfold containsI grownI at h1
  unfold knownI at h2
  simp only [Bool.and_eq_true, decide_eq_true_eq] at h1 h2
  unfold InSea grownI
  dsimp only
  omega
def diveE (s : Sea) (v : Veh) (x : S31) (t : Int) : Int := if reachE s v x t ≠ 0 then reachE s v x t else safeE s (grownI s v x)
def diveV (s : Sea) (v : Veh) (x : S31) (t hd layer : Int) : S31 := if diveE s v x t = 0 then endsI s v x (grownI s v x) t hd layer else z31
theorem safe_two (s : Sea) (x : S31) : safeE s x = 0 ∨ safeE s x = 21 := by
  unfold safeE
  split
  · exact .inr rfl
  · exact .inl rfl
set_option maxRecDepth 100000 in
set_option maxHeartbeats 8000000 in
theorem dive_any (b : Nat) (s : Sea) (v : Veh) (x : S31) (t hd layer : Int) (w : World) (hT : TripAt w b s v) (hS : SeaV s) (hV : VehN v) (hx : BoxOK x) (ht0 : 0 ≤ t) (ht1 : t ≤ 1099511627776) (hh0 : 0 ≤ hd) (hh1 : hd ≤ 8) (hl0 : 0 ≤ layer) (hl1 : layer < s.layers) :
    Calls Try.prog 66 #[.pointer (some ⟨b, 0, none⟩), .agg #[.int .i64 x.f0.f0, .int .i64 x.f0.f1, .int .i64 x.f1.f0, .int .i64 x.f1.f1], .int .i64 t, .agg #[.int .i64 hd, .int .i64 layer]] w (RetB (.tuple #[.agg #[.int .i64 (diveV s v x t hd layer).f0.f0, .int .i64 (diveV s v x t hd layer).f0.f1, .int .i64 (diveV s v x t hd layer).f1.f0, .int .i64 (diveV s v x t hd layer).f1.f1], .int .i64 (diveE s v x t)]) w) := by
  have hu31 := Try.underlying31
  have hu27 := Try.underlying27
  have hu33 := Try.underlying33
  have kR := fun W (h : TripAt W b s v) => reach_any b s v x t W h hS.n hV hx.1 ht0 ht1
  have hok := reach_ok (t := t) hS.n hV hx
  have HE : Hid (diveE s v x t = if reachE s v x t ≠ 0 then reachE s v x t else safeE s (grownI s v x)) := Lib.hid rfl
  have HV : Hid (diveV s v x t hd layer = if diveE s v x t = 0 then endsI s v x (grownI s v x) t hd layer else z31) := Lib.hid rfl
  have HRV : Hid (reachV s v x t = if reachE s v x t = 0 then grownI s v x else z31) := Lib.hid rfl
  go_enter Try.func66, Try.ntmps66
  go_wp2_with fail
  have m5 : Blk (((w.alloc (.cells #[.int .i64 x.f0.f0, .int .i64 x.f0.f1, .int .i64 x.f1.f0, .int .i64 x.f1.f1] 31)).alloc (.cells #[.int .i64 hd, .int .i64 layer] 33)).alloc (.cells #[.int .i64 0, .int .i64 0, .int .i64 0, .int .i64 0] 31)) (w.heap.size) #[.int .i64 x.f0.f0, .int .i64 x.f0.f1, .int .i64 x.f1.f0, .int .i64 x.f1.f1] 31 := (blk_alloc (blk_alloc zq22 _) _)
  have m7 : Blk (((w.alloc (.cells #[.int .i64 x.f0.f0, .int .i64 x.f0.f1, .int .i64 x.f1.f0, .int .i64 x.f1.f1] 31)).alloc (.cells #[.int .i64 hd, .int .i64 layer] 33)).alloc (.cells #[.int .i64 0, .int .i64 0, .int .i64 0, .int .i64 0] 31)) (w.heap.size + 1) #[.int .i64 hd, .int .i64 layer] 33 := (blk_alloc (by have h_ := blk_new (w.alloc (.cells #[.int .i64 x.f0.f0, .int .i64 x.f0.f1, .int .i64 x.f1.f0, .int .i64 x.f1.f1] 31)) (.cells #[.int .i64 hd, .int .i64 layer] 33); first | exact h_ | (simp only [World.size_alloc] at h_; exact h_)) _)
  have m8 : Blk (((w.alloc (.cells #[.int .i64 x.f0.f0, .int .i64 x.f0.f1, .int .i64 x.f1.f0, .int .i64 x.f1.f1] 31)).alloc (.cells #[.int .i64 hd, .int .i64 layer] 33)).alloc (.cells #[.int .i64 0, .int .i64 0, .int .i64 0, .int .i64 0] 31)) (w.heap.size + 1 + 1) #[.int .i64 0, .int .i64 0, .int .i64 0, .int .i64 0] 31 := (by have h_ := blk_new ((w.alloc (.cells #[.int .i64 x.f0.f0, .int .i64 x.f0.f1, .int .i64 x.f1.f0, .int .i64 x.f1.f1] 31)).alloc (.cells #[.int .i64 hd, .int .i64 layer] 33)) (.cells #[.int .i64 0, .int .i64 0, .int .i64 0, .int .i64 0] 31); first | exact h_ | (simp only [World.size_alloc] at h_; exact h_))
  have mB : Below w.heap.size w (((w.alloc (.cells #[.int .i64 x.f0.f0, .int .i64 x.f0.f1, .int .i64 x.f1.f0, .int .i64 x.f1.f1] 31)).alloc (.cells #[.int .i64 hd, .int .i64 layer] 33)).alloc (.cells #[.int .i64 0, .int .i64 0, .int .i64 0, .int .i64 0] 31)) := (below_alloc (below_alloc (below_alloc (Below.refl w.heap.size w) _) _) _)
  have hsz_ : w.heap.size ≤ w.heap.size := Nat.le_refl _
  generalize hW_ : (((w.alloc (.cells #[.int .i64 x.f0.f0, .int .i64 x.f0.f1, .int .i64 x.f1.f0, .int .i64 x.f1.f1] 31)).alloc (.cells #[.int .i64 hd, .int .i64 layer] 33)).alloc (.cells #[.int .i64 0, .int .i64 0, .int .i64 0, .int .i64 0] 31)) = W1 at m5 m7 m8 mB ⊢
  clear hW_
  generalize hg5 : w.heap.size = g5 at m5 m7 m8 ⊢
  have hG5 : w.heap.size ≤ g5 := by omega
  generalize hg7 : g5 + 1 = g7 at m7 m8 ⊢
  have hn_5_7 : g5 ≠ g7 := by omega
  have hn_7_5 : g7 ≠ g5 := hn_5_7.symm
  have hG7 : w.heap.size ≤ g7 := by omega
  generalize hg8 : g7 + 1 = g8 at m8 ⊢
  have hn_5_8 : g5 ≠ g8 := by omega
  have hn_7_8 : g7 ≠ g8 := by omega
  have hn_8_5 : g8 ≠ g5 := hn_5_8.symm
  have hn_8_7 : g8 ≠ g7 := hn_7_8.symm
  have hG8 : w.heap.size ≤ g8 := by omega
  clear hsz_
  try clear hg8
  try clear hg7
  try clear hg5
  have hs_W1 : w.heap.size ≤ W1.heap.size := mB.size
  have hcon := kR W1 (hT.below mB)
  (with_reducible refine hcon.mono ?_)
  clear hcon
  rintro e W2 ⟨rfl, hb⟩
  replace m5 := blk_below m5 hb
  replace m7 := blk_below m7 hb
  replace m8 := blk_below m8 hb
  replace mB := below_step mB hb
  clear hb
  have hs_W2 : w.heap.size ≤ W2.heap.size := mB.size
  clear kR
  by_cases hr : reachE s v x t = 0
  case neg =>
    have HZ : Hid (diveE s v x t = reachE s v x t) := Lib.hid (HE.out.trans (if_pos hr))
    try clear HE
    have HV2 : Hid (diveV s v x t hd layer = z31) := Lib.hid (HV.out.trans (if_neg (by rw [HZ.out]; exact hr)))
    clear HV
    clear hok
    generalize reachE s v x t = E at *
    generalize reachV s v x t = V at *
    have hz : (E == 0) = false := beq_eq_false_iff_ne.2 hr
    have hz2 : (E != 0) = true := by rw [bne, hz]; rfl
    clear hr HRV
    have a8_0 : ∀ o_, (W2.alloc o_).cell? ⟨g8, 0, none⟩ = some (.int .i64 0) := fun o_ => (blk_cell (blk_alloc m8 o_) 0).trans rfl
    have b8_0 : ∀ o_, (W2.alloc o_).frozen? ⟨g8, 0, none⟩ = false := fun o_ => blk_frozen (blk_alloc m8 o_) 0
    have a8_1 : ∀ o_, (W2.alloc o_).cell? ⟨g8, 1, none⟩ = some (.int .i64 0) := fun o_ => (blk_cell (blk_alloc m8 o_) 1).trans rfl
    have b8_1 : ∀ o_, (W2.alloc o_).frozen? ⟨g8, 1, none⟩ = false := fun o_ => blk_frozen (blk_alloc m8 o_) 1
    have a8_2 : ∀ o_, (W2.alloc o_).cell? ⟨g8, 2, none⟩ = some (.int .i64 0) := fun o_ => (blk_cell (blk_alloc m8 o_) 2).trans rfl
    have b8_2 : ∀ o_, (W2.alloc o_).frozen? ⟨g8, 2, none⟩ = false := fun o_ => blk_frozen (blk_alloc m8 o_) 2
    have a8_3 : ∀ o_, (W2.alloc o_).cell? ⟨g8, 3, none⟩ = some (.int .i64 0) := fun o_ => (blk_cell (blk_alloc m8 o_) 3).trans rfl
    have b8_3 : ∀ o_, (W2.alloc o_).frozen? ⟨g8, 3, none⟩ = false := fun o_ => blk_frozen (blk_alloc m8 o_) 3
    go_wp2
    exact bodyPost_ret (results_ct rfl _ _ g8 31 #[.int .i64 0, .int .i64 0, .int .i64 0, .int .i64 0] (0, 0) _ rfl (blk_put (blk_put (blk_put (blk_put (blk_alloc m8 _) 0 (.int .i64 0) rfl) 1 (.int .i64 0) rfl) 2 (.int .i64 0) rfl) 3 (.int .i64 0) rfl) Try.underlying31 rfl zq1) rfl ⟨zq23, (Below.setCell (p := ⟨g8, 3, none⟩) (Below.setCell (p := ⟨g8, 2, none⟩) (Below.setCell (p := ⟨g8, 1, none⟩) (Below.setCell (p := ⟨g8, 0, none⟩) (below_alloc mB _) hG8 _) hG8 _) hG8 _) hG8 _)⟩
  case pos =>
    obtain ⟨hG, ⟨hk0, hk1⟩, _⟩ := hok hr
    clear hok
    have HE2 := Lib.hid (HE.out.trans (if_neg (fun h => h hr)))
    clear HE
    have HRV2 := Lib.hid (HRV.out.trans (if_pos hr))
    clear HRV
    rw [hr, HRV2.out]
    clear hr HRV2
    have kS := fun W (h : TripAt W b s v) => safe_any b s v (grownI s v x) W h hS.n hG hS.sh
    have kD := fun W (h : TripAt W b s v) => ends_any b s v x (grownI s v x) t hd layer W h hS.n hV hS.cu hS.cb hx.1 hG hk0 hk1 hh0 hh1 hl0 hl1
    clear hS hV hx hG hk0 hk1 hh0 hh1 hl0 hl1
    have hsf := safe_two s (grownI s v x)
    generalize endsI s v x (grownI s v x) t hd layer = Y at *
    generalize grownI s v x = G at *
    generalize safeE s G = F at *
    go_wp2_with fail
    have hl_5 := blk_lt m5
    have hl_7 := blk_lt m7
    have hl_8 := blk_lt m8
    have m10 : Blk (W2.alloc (.cells #[.int .i64 G.f0.f0, .int .i64 G.f0.f1, .int .i64 G.f1.f0, .int .i64 G.f1.f1] 31)) (W2.heap.size) #[.int .i64 G.f0.f0, .int .i64 G.f0.f1, .int .i64 G.f1.f0, .int .i64 G.f1.f1] 31 := (by have h_ := blk_new W2 (.cells #[.int .i64 G.f0.f0, .int .i64 G.f0.f1, .int .i64 G.f1.f0, .int .i64 G.f1.f1] 31); first | exact h_ | (simp only [World.size_alloc] at h_; exact h_))
    replace m5 : Blk (W2.alloc (.cells #[.int .i64 G.f0.f0, .int .i64 G.f0.f1, .int .i64 G.f1.f0, .int .i64 G.f1.f1] 31)) g5 #[.int .i64 x.f0.f0, .int .i64 x.f0.f1, .int .i64 x.f1.f0, .int .i64 x.f1.f1] 31 := (blk_alloc m5 _)
    replace m7 : Blk (W2.alloc (.cells #[.int .i64 G.f0.f0, .int .i64 G.f0.f1, .int .i64 G.f1.f0, .int .i64 G.f1.f1] 31)) g7 #[.int .i64 hd, .int .i64 layer] 33 := (blk_alloc m7 _)
    replace m8 : Blk (W2.alloc (.cells #[.int .i64 G.f0.f0, .int .i64 G.f0.f1, .int .i64 G.f1.f0, .int .i64 G.f1.f1] 31)) g8 #[.int .i64 0, .int .i64 0, .int .i64 0, .int .i64 0] 31 := (blk_alloc m8 _)
    replace mB : Below w.heap.size w (W2.alloc (.cells #[.int .i64 G.f0.f0, .int .i64 G.f0.f1, .int .i64 G.f1.f0, .int .i64 G.f1.f1] 31)) := (below_alloc mB _)
    have hsz_ : w.heap.size ≤ W2.heap.size := hs_W2
    generalize hW_ : (W2.alloc (.cells #[.int .i64 G.f0.f0, .int .i64 G.f0.f1, .int .i64 G.f1.f0, .int .i64 G.f1.f1] 31)) = W3 at m5 m7 m8 m10 mB ⊢
    clear hW_
    generalize hg10 : W2.heap.size = g10 at m10 ⊢
    have hn_5_10 : g5 ≠ g10 := by omega
    have hn_7_10 : g7 ≠ g10 := by omega
    have hn_8_10 : g8 ≠ g10 := by omega
    have hn_10_5 : g10 ≠ g5 := hn_5_10.symm
    have hn_10_7 : g10 ≠ g7 := hn_7_10.symm
    have hn_10_8 : g10 ≠ g8 := hn_8_10.symm
    have hG10 : w.heap.size ≤ g10 := by omega
    clear hsz_ hl_5 hl_7 hl_8
    try clear hg10
    have hs_W3 : w.heap.size ≤ W3.heap.size := mB.size
    have hcon := kS W3 (hT.below mB)
    (with_reducible refine hcon.mono ?_)
    clear hcon
    rintro e W4 ⟨rfl, hb⟩
    replace m5 := blk_below m5 hb
    replace m7 := blk_below m7 hb
    replace m8 := blk_below m8 hb
    replace m10 := blk_below m10 hb
    replace mB := below_step mB hb
    clear hb
    have hs_W4 : w.heap.size ≤ W4.heap.size := mB.size
    clear kS
    rcases hsf with rfl | rfl
    case inr =>
      have HZ : Hid (diveE s v x t = 21) := Lib.hid (HE2.out)
      try clear HE
      have HV2 : Hid (diveV s v x t hd layer = z31) := Lib.hid (HV.out.trans (if_neg (by rw [HZ.out]; decide)))
      clear HV
      obtain ⟨c8_0, c8_1, c8_2, c8_3, f8_0, f8_1, f8_2, f8_3⟩ := zce4 m8
      go_wp2
      exact bodyPost_ret (results_ct rfl _ _ g8 31 #[.int .i64 0, .int .i64 0, .int .i64 0, .int .i64 0] (0, 0) _ rfl (blk_put (blk_put (blk_put (blk_put m8 0 (.int .i64 0) rfl) 1 (.int .i64 0) rfl) 2 (.int .i64 0) rfl) 3 (.int .i64 0) rfl) Try.underlying31 rfl zq1) rfl ⟨zq23, (Below.setCell (p := ⟨g8, 3, none⟩) (Below.setCell (p := ⟨g8, 2, none⟩) (Below.setCell (p := ⟨g8, 1, none⟩) (Below.setCell (p := ⟨g8, 0, none⟩) mB hG8 _) hG8 _) hG8 _) hG8 _)⟩
    case inl =>
      have HV2 := Lib.hid (HV.out.trans (if_pos HE2.out))
      clear HV
      obtain ⟨c5_0, c5_1, c5_2, c5_3⟩ := zcs4 m5
      obtain ⟨c7_0, c7_1⟩ := zcs2 m7
      obtain ⟨c10_0, c10_1, c10_2, c10_3⟩ := zcs4 m10
      go_wp2_with fail
      clear c5_0
      clear c5_1
      clear c5_2
      clear c5_3
      clear c7_0
      clear c7_1
      clear c10_0
      clear c10_1
      clear c10_2
      clear c10_3
      have hcon := kD W4 (hT.below mB)
      (with_reducible refine hcon.mono ?_)
      clear hcon
      rintro e W5 ⟨rfl, hb⟩
      replace m5 := blk_below m5 hb
      replace m7 := blk_below m7 hb
      replace m8 := blk_below m8 hb
      replace m10 := blk_below m10 hb
      replace mB := below_step mB hb
      clear hb
      have hs_W5 : w.heap.size ≤ W5.heap.size := mB.size
      clear kD
      obtain ⟨c8_0, c8_1, c8_2, c8_3, f8_0, f8_1, f8_2, f8_3⟩ := zce4 m8
      go_wp2
      exact bodyPost_ret (results_ct rfl _ _ g8 31 #[.int .i64 Y.f0.f0, .int .i64 Y.f0.f1, .int .i64 Y.f1.f0, .int .i64 Y.f1.f1] (0, 0) _ rfl (blk_put (blk_put (blk_put (blk_put m8 0 (.int .i64 Y.f0.f0) rfl) 1 (.int .i64 Y.f0.f1) rfl) 2 (.int .i64 Y.f1.f0) rfl) 3 (.int .i64 Y.f1.f1) rfl) Try.underlying31 rfl zq1) rfl ⟨by rw [HV2.out, HE2.out]; rfl, (Below.setCell (p := ⟨g8, 3, none⟩) (Below.setCell (p := ⟨g8, 2, none⟩) (Below.setCell (p := ⟨g8, 1, none⟩) (Below.setCell (p := ⟨g8, 0, none⟩) mB hG8 _) hG8 _) hG8 _) hG8 _)⟩
end Go.Proofs.Ytmhaiihjfgfaoaa.Gl
end
section
namespace Go.Proofs.Ytmhaiihjfgfaoaa.Pr
open Go.RowKit Go.Proofs.YtmhaiihjfgfaoaaW.PrintWords Go.Proofs.YtmhaiihjfgfaoaaW.PrintLast Go.Proofs.YtmhaiihjfgfaoaaW.PrintMore
attribute [local go_sem] max2_int min2_int max_two min_two max_four
set_option linter.unusedVariables false
set_option linter.unusedSimpArgs false

/-! ### bound_amount: function 117 -/
def bound_amount.f (a0 : Int) : Option (Int) := some (mx a0 (wrap64 (-a0)))
set_option maxHeartbeats 8000000 in
set_option maxRecDepth 100000 in
theorem bound_amount.calls (a0 : Int) (r : Int) (w : World) (h : bound_amount.f a0 = some r) :
    Calls Try.prog 117 #[.int .i64 a0] w fun e w' => e = .returned (.int .i64 r) ∧ Below w.heap.size w w' := by
  have HB := Aside0.mk (Below.refl w.heap.size w)
  have H : (some (mx a0 (wrap64 (-a0)))) = some r := h
  clear h
  obtain ⟨ji2, hji2⟩ : ∃ j_ : Int, (mx a0 (wrap64 (-a0))) = j_ := ⟨_, rfl⟩
  replace H : (some ji2) = some r := by first | (rw [hji2] at H; exact H) | (simp only [hji2] at H ⊢; exact H)
  have hji2_ : (if a0 < (wrap64 (-a0)) then (wrap64 (-a0)) else a0) = ji2 := hji2
  obtain rfl := Option.some.inj H
  go_enter Try.func117, Try.ntmps117
  go_wp2
  go_ret
  exact ⟨by first | rfl | (simp [errW_none, errW_some] <;> rfl) | (simp only [← hji2]; first | rfl | (simp [errW_none, errW_some] <;> rfl)) | (simp [*, errW_none, errW_some] <;> rfl), zbz⟩

end Go.Proofs.Ytmhaiihjfgfaoaa.Pr
end
section
namespace Go.Proofs.Ytmhaiihjfgfaoaa.Pr
open Go.RowKit Go.Proofs.YtmhaiihjfgfaoaaW.PrintWords Go.Proofs.YtmhaiihjfgfaoaaW.PrintLast Go.Proofs.YtmhaiihjfgfaoaaW.PrintMore
attribute [local go_sem] max2_int min2_int max_two min_two max_four
set_option linter.unusedVariables false
set_option linter.unusedSimpArgs false

/-! ### bound_CheckBox: function 67 -/
def bound_CheckBox.f (k : Nat) (a0_0 : Int) (a0_1 : Int) (a0_2 : Int) (a0_3 : Int) : Option (Int) := (bound_check.f k (([(⟨a0_0, a0_1⟩ : S27), (⟨a0_2, a0_3⟩ : S27)] : List (S27)))).bind fun t148 => (if t148 = 0 then ((bound_amount.f a0_0).bind fun t149 => ((bound_amount.f a0_1).bind fun t150 => ((bound_amount.f a0_2).bind fun t151 => ((bound_amount.f a0_3).bind fun t152 => (if (mx (mx (mx t149 t150) t151) t152) > 268435456 then (some 2) else (some 0)))))) else (some t148))
theorem bound_CheckBox.mono : ∀ a0 a1 a2 a3 k, LeO (bound_CheckBox.f k a0 a1 a2 a3) (bound_CheckBox.f (k + 1) a0 a1 a2 a3) := by
  intro a0 a1 a2 a3 k
  unfold bound_CheckBox.f
  repeat' first
      | (with_reducible exact bound_check.mono _ _)
      | (with_reducible exact LeO.refl _)
      | (with_reducible exact LeO.none _)
      | (with_reducible refine LeO.ite ?_ ?_)
      | (with_reducible refine LeO.bind ?_ (fun _ => ?_))
      | exact bound_check.mono _ _
      | exact LeO.none _
      | refine LeO.ite ?_ ?_
      | refine LeO.bind ?_ (fun _ => ?_)
def bound_CheckBox.T4 : Bool × List (List Nat × List Nat) := (true, [([], []), ([0], [0]), ([1], [1]), ([2], [2]), ([], []), ([4], [4]), ([5], [5]), ([6, 3], [6]), ([], []), ([8], [8]), ([9], [9]), ([10, 7], [10]), ([], []), ([12], [12]), ([13], [13]), ([14, 11], [14]), ([3, 7, 11, 15], [3, 7, 11, 15]), ([16], [16])])
def bound_CheckBox.B4 : List Nat := [0, 1, 3, 7, 0, 16, 48, 127, 0, 256, 768, 2047, 0, 4096, 12288, 32767, 65535, 131071]
theorem bound_CheckBox.tab4 : rtab .any (opsOf Try.f67 4) = bound_CheckBox.T4 := by kernel_rfl
theorem bound_CheckBox.bits4 : waitsOk bound_CheckBox.T4.2 bound_CheckBox.B4 = true := by kernel_rfl
set_option maxHeartbeats 8000000 in
set_option maxRecDepth 100000 in
theorem bound_CheckBox.calls (k : Nat) (a0_0 : Int) (a0_1 : Int) (a0_2 : Int) (a0_3 : Int) (r : Int) (w : World) (h : bound_CheckBox.f k a0_0 a0_1 a0_2 a0_3 = some r) :
    Calls Try.prog 67 #[.agg #[.int .i64 a0_0, .int .i64 a0_1, .int .i64 a0_2, .int .i64 a0_3]] w fun e w' => e = .returned (.int .i64 r) ∧ Below w.heap.size w w' := by
  have hu31 := Try.underlying31
  have hu27 := Try.underlying27
  have HB := Aside0.mk (Below.refl w.heap.size w)
  have H : ((bound_check.f k (([(⟨a0_0, a0_1⟩ : S27), (⟨a0_2, a0_3⟩ : S27)] : List (S27)))).bind fun t148 => (if t148 = 0 then ((bound_amount.f a0_0).bind fun t149 => ((bound_amount.f a0_1).bind fun t150 => ((bound_amount.f a0_2).bind fun t151 => ((bound_amount.f a0_3).bind fun t152 => (if (mx (mx (mx t149 t150) t151) t152) > 268435456 then (some 2) else (some 0)))))) else (some t148))) = some r := h
  clear h
  obtain ⟨y145, hy145⟩ : ∃ y_ : List (S27), y_ = (([(⟨a0_0, a0_1⟩ : S27), (⟨a0_2, a0_3⟩ : S27)] : List (S27))) := ⟨_, rfl⟩
  replace H : ((bound_check.f k y145).bind fun t148 => (if t148 = 0 then ((bound_amount.f a0_0).bind fun t149 => ((bound_amount.f a0_1).bind fun t150 => ((bound_amount.f a0_2).bind fun t151 => ((bound_amount.f a0_3).bind fun t152 => (if (mx (mx (mx t149 t150) t151) t152) > 268435456 then (some 2) else (some 0)))))) else (some t148))) = some r := by first | (rw [hy145]; with_reducible exact H) | (have H2_ := (Option.bind_some _ _).symm.trans H; rw [hy145]; with_reducible exact H2_) | (have H2_ := (Option.bind_some _ _).symm.trans H; with_reducible exact H2_) | with_reducible exact H | (rw [hy145]; exact H) | exact H
  have Ny145 := Aside0.mk hy145
  clear hy145
  replace H := Option.bind_eq_some_iff.mp H
  obtain ⟨t148, A20, H⟩ := H
  replace H : (if t148 = 0 then ((bound_amount.f a0_0).bind fun t149 => ((bound_amount.f a0_1).bind fun t150 => ((bound_amount.f a0_2).bind fun t151 => ((bound_amount.f a0_3).bind fun t152 => (if (mx (mx (mx t149 t150) t151) t152) > 268435456 then (some 2) else (some 0)))))) else (some t148)) = some r := H
  have A2 := Aside0.mk A20
  clear A20
  by_cases c3 : t148 = 0
  · rw [if_pos c3] at H
    have c3b0 : (t148 == 0) = true := beq_iff_eq.mpr c3
    have c3b1 : (t148 != 0) = false := bne_eq_false_iff_eq.mpr c3
    clear c3
    replace H := Option.bind_eq_some_iff.mp H
    obtain ⟨t149, A40, H⟩ := H
    replace H : ((bound_amount.f a0_1).bind fun t150 => ((bound_amount.f a0_2).bind fun t151 => ((bound_amount.f a0_3).bind fun t152 => (if (mx (mx (mx t149 t150) t151) t152) > 268435456 then (some 2) else (some 0))))) = some r := H
    have A4 := Aside0.mk A40
    clear A40
    replace H := Option.bind_eq_some_iff.mp H
    obtain ⟨t150, A50, H⟩ := H
    replace H : ((bound_amount.f a0_2).bind fun t151 => ((bound_amount.f a0_3).bind fun t152 => (if (mx (mx (mx t149 t150) t151) t152) > 268435456 then (some 2) else (some 0)))) = some r := H
    have A5 := Aside0.mk A50
    clear A50
    replace H := Option.bind_eq_some_iff.mp H
    obtain ⟨t151, A60, H⟩ := H
    replace H : ((bound_amount.f a0_3).bind fun t152 => (if (mx (mx (mx t149 t150) t151) t152) > 268435456 then (some 2) else (some 0))) = some r := H
    have A6 := Aside0.mk A60
    clear A60
    replace H := Option.bind_eq_some_iff.mp H
    obtain ⟨t152, A70, H⟩ := H
    replace H : (if (mx (mx (mx t149 t150) t151) t152) > 268435456 then (some 2) else (some 0)) = some r := H
    have A7 := Aside0.mk A70
    clear A70
    obtain ⟨ji8, hji8⟩ : ∃ j_ : Int, (mx t149 t150) = j_ := ⟨_, rfl⟩
    replace H : (if (mx (mx (ji8) t151) t152) > 268435456 then (some 2) else (some 0)) = some r := by first | (rw [hji8] at H; exact H) | (simp only [hji8] at H ⊢; exact H)
    (try rw [hji8] at A2)
    (try rw [hji8] at A4)
    (try rw [hji8] at A5)
    (try rw [hji8] at A6)
    (try rw [hji8] at A7)
    have hji8_ : (if t149 < t150 then t150 else t149) = ji8 := hji8
    obtain ⟨ji9, hji9⟩ : ∃ j_ : Int, (mx (ji8) t151) = j_ := ⟨_, rfl⟩
    replace H : (if (mx (ji9) t152) > 268435456 then (some 2) else (some 0)) = some r := by first | (rw [hji9] at H; exact H) | (simp only [hji9] at H ⊢; exact H)
    (try rw [hji9] at A2)
    (try rw [hji9] at A4)
    (try rw [hji9] at A5)
    (try rw [hji9] at A6)
    (try rw [hji9] at A7)
    have hji9_ : (if (ji8) < t151 then t151 else (ji8)) = ji9 := hji9
    obtain ⟨ji10, hji10⟩ : ∃ j_ : Int, (mx (ji9) t152) = j_ := ⟨_, rfl⟩
    replace H : (if (ji10) > 268435456 then (some 2) else (some 0)) = some r := by first | (rw [hji10] at H; exact H) | (simp only [hji10] at H ⊢; exact H)
    (try rw [hji10] at A2)
    (try rw [hji10] at A4)
    (try rw [hji10] at A5)
    (try rw [hji10] at A6)
    (try rw [hji10] at A7)
    have hji10_ : (if (ji9) < t152 then t152 else (ji9)) = ji10 := hji10
    by_cases c11 : (ji10) > 268435456
    · rw [if_pos c11] at H
      have c11b0 : decide (268435456 < (ji10)) = true := decide_eq_true c11
      clear c11
      obtain rfl := Option.some.inj H
      go_enter Try.func67, Try.ntmps67
      try go_wp2_with (first | ((with_reducible refine gate_dst (N := 1) rfl ?_); refine box_event (by rfl) (N := 1) (by rfl) (cs := #[.int .i64 a0_0, .int .i64 a0_1, .int .i64 a0_2, .int .i64 a0_3]) (t := 31) zq5 ?_; intro gb144 hg w12 hbox hb; have BK144 := Aside0.mk (hbox); have GW144 := zgs HB hg; have GE144 := zgs HB hg; replace HB := zbs HB hb; clear hb hbox hg; obtain ⟨hcz13_0, hcz13_1, hcz13_2, hcz13_3, hfz13_0, hfz13_1, hfz13_2, hfz13_3⟩ := zce4 BK144.out) | ((with_reducible refine gate_dst (N := 8) rfl ?_); refine Kd.R_lit k27 _ 27 (by rfl) (N := 8) (by rfl) (xs := ([(⟨a0_0, a0_1⟩ : S27), (⟨a0_2, a0_3⟩ : S27)] : List (S27))) (inner := [.int .i64 a0_0, .int .i64 a0_1, .int .i64 a0_2, .int .i64 a0_3]) (ok := fun _ => True) (okp := fun _ => True) zq5 zq29 (fun _ hk => hk) trivial (Below.refl _ _) (Nat.le_refl _) (by simp) ?_; intro v146 w14 ho15 hb hg_ hnew_; clear hg_ hnew_; (first | rw [← Ny145.out] at ho15 | (simp only [Int.reduceToNat] at ho15; rw [← Ny145.out] at ho15)); have HO147 := Aside0.mk (Kd.R_lower ho15 (below_size zbz)); replace BK144 := zbb BK144 hb; replace HB := zbs HB hb; clear hb ho15; obtain ⟨Ao16, co16, eo16⟩ := Kd.R_slice HO147.out; subst eo16) | ((with_reducible refine gate_callee (f := 116) rfl ?_); refine goesL_ (some 9) rfl rfl Try.func116 zq1 rfl #[.slice Ao16 y145.length co16] rfl zq8 ?_; (with_reducible refine (bound_check.calls k _ _ y145 t148 _ ?side1 ?side2 A2.out).mono ?_); (case side1 => repeat (first | exact (Kd.R_reads' HO147.out).2.2 | (with_reducible refine Kd.C_alloc ?_ _) | (with_reducible refine Kd.C_drewN ?_ _) | (with_reducible refine Kd.C_drew ?_))); (case side2 => exact (Kd.R_reads' HO147.out).2.1); rintro e w17 ⟨rfl, hb⟩; refine ⟨_, rfl, ?_⟩; replace HO147 := Aside0.mk (Kd.R_below zq30 hb); replace BK144 := zbb BK144 hb; replace HB := zbs HB hb; (try clear hb); (try clear hb2); (try clear hk); (try clear hi)))
      replace HO147 := Aside0.mk (Kd.R_drew HO147.out)
      replace BK144 := Aside0.mk (blk_drew BK144.out)
      replace HB := Aside0.mk (below_drew1 HB.out)
      refine start_ (n := 18) (S := fun w' => w'.cell? ⟨gb144, 0, none⟩ = some (.int .i64 a0_0) ∧ w'.cell? ⟨gb144, 1, none⟩ = some (.int .i64 a0_1) ∧ w'.cell? ⟨gb144, 2, none⟩ = some (.int .i64 a0_2) ∧ w'.cell? ⟨gb144, 3, none⟩ = some (.int .i64 a0_3)) (ds := []) #[false, false, false, false, false, false, false, false, false, false, false, false, false, false, false, false, false, false] zq1 rfl rfl ⟨(blk_cell BK144.out 0).trans rfl, (blk_cell BK144.out 1).trans rfl, (blk_cell BK144.out 2).trans rfl, (blk_cell BK144.out 3).trans rfl⟩ (fun hHeld => ?_); refine with_tabW bound_CheckBox.tab4 bound_CheckBox.bits4 (fun HT_ HW_ => ?_)
      generalize w17.drew = w18 at HO147 BK144 HB hHeld ⊢
      refine zpz (i := 0) (N := some 13) (any_of HT_.out zq1) ?_
      refine zpz (i := 1) (N := some 14) (any_of HT_.out zq1) ?_
      refine zpz (i := 4) (N := some 17) (any_of HT_.out zq1) ?_
      refine zpz (i := 5) (N := some 18) (any_of HT_.out zq1) ?_
      refine zpz (i := 8) (N := some 21) (any_of HT_.out zq1) ?_
      refine zpz (i := 9) (N := some 22) (any_of HT_.out zq1) ?_
      refine zpz (i := 12) (N := some 25) (any_of HT_.out zq1) ?_
      refine zpz (i := 13) (N := some 26) (any_of HT_.out zq1) ?_
      refine ztz (i := 2) (N := some 15) (take_ofW HT_.out HW_.out zq1) hHeld ?_
      refine ztz (i := 6) (N := some 19) (take_ofW HT_.out HW_.out zq1) hHeld ?_
      refine ztz (i := 10) (N := some 23) (take_ofW HT_.out HW_.out zq1) hHeld ?_
      refine ztz (i := 14) (N := some 27) (take_ofW HT_.out HW_.out zq1) hHeld ?_
      refine one_ (i := 3) (N := some 16) #[true, true, true, true, true, true, true, false, true, true, true, false, true, true, true, false, false, false] rfl rfl (one_of HT_.out zq1) (by decide) (fun K hK => ?_)
      refine goes_ Try.func117 zq1 rfl #[.int .i64 a0_0] (by rfl) rfl rfl zq8 ?_
      with_reducible refine (bound_amount.calls a0_0 t149 _ A4.out).mono ?_
      rintro e w19 ⟨rfl, hb⟩
      refine ⟨_, rfl, ?_⟩
      replace HO147 := Aside0.mk (Kd.R_below zq30 hb)
      replace BK144 := zbb BK144 hb
      replace HB := zbs HB hb
      (try clear hb)
      (try clear hb2)
      (try clear hk)
      (try clear hi)
      refine hK.out _ _ ⟨(blk_cell BK144.out 0).trans rfl, (blk_cell BK144.out 1).trans rfl, (blk_cell BK144.out 2).trans rfl, (blk_cell BK144.out 3).trans rfl⟩ (fun hHeld => ?_)
      clear hK K
      refine norm_ zq21 ?_
      refine one_ (i := 7) (N := some 20) #[true, true, true, true, true, true, true, true, true, true, true, false, true, true, true, false, false, false] rfl rfl (one_of HT_.out zq1) (by decide) (fun K hK => ?_)
      refine goes_ Try.func117 zq1 rfl #[.int .i64 a0_1] (by rfl) rfl rfl zq8 ?_
      with_reducible refine (bound_amount.calls a0_1 t150 _ A5.out).mono ?_
      rintro e w20 ⟨rfl, hb⟩
      refine ⟨_, rfl, ?_⟩
      replace HO147 := Aside0.mk (Kd.R_below zq30 hb)
      replace BK144 := zbb BK144 hb
      replace HB := zbs HB hb
      (try clear hb)
      (try clear hb2)
      (try clear hk)
      (try clear hi)
      refine hK.out _ _ ⟨(blk_cell BK144.out 0).trans rfl, (blk_cell BK144.out 1).trans rfl, (blk_cell BK144.out 2).trans rfl, (blk_cell BK144.out 3).trans rfl⟩ (fun hHeld => ?_)
      clear hK K
      refine norm_ zq31 ?_
      refine one_ (i := 11) (N := some 24) #[true, true, true, true, true, true, true, true, true, true, true, true, true, true, true, false, false, false] rfl rfl (one_of HT_.out zq1) (by decide) (fun K hK => ?_)
      refine goes_ Try.func117 zq1 rfl #[.int .i64 a0_2] (by rfl) rfl rfl zq8 ?_
      with_reducible refine (bound_amount.calls a0_2 t151 _ A6.out).mono ?_
      rintro e w21 ⟨rfl, hb⟩
      refine ⟨_, rfl, ?_⟩
      replace HO147 := Aside0.mk (Kd.R_below zq30 hb)
      replace BK144 := zbb BK144 hb
      replace HB := zbs HB hb
      (try clear hb)
      (try clear hb2)
      (try clear hk)
      (try clear hi)
      refine hK.out _ _ ⟨(blk_cell BK144.out 0).trans rfl, (blk_cell BK144.out 1).trans rfl, (blk_cell BK144.out 2).trans rfl, (blk_cell BK144.out 3).trans rfl⟩ (fun hHeld => ?_)
      clear hK K
      refine norm_ zq32 ?_
      refine one_ (i := 15) (N := some 28) #[true, true, true, true, true, true, true, true, true, true, true, true, true, true, true, true, false, false] rfl rfl (one_of HT_.out zq1) (by decide) (fun K hK => ?_)
      refine goes_ Try.func117 zq1 rfl #[.int .i64 a0_3] (by rfl) rfl rfl zq8 ?_
      with_reducible refine (bound_amount.calls a0_3 t152 _ A7.out).mono ?_
      rintro e w22 ⟨rfl, hb⟩
      refine ⟨_, rfl, ?_⟩
      replace HO147 := Aside0.mk (Kd.R_below zq30 hb)
      replace BK144 := zbb BK144 hb
      replace HB := zbs HB hb
      (try clear hb)
      (try clear hb2)
      (try clear hk)
      (try clear hi)
      refine hK.out _ _ ⟨(blk_cell BK144.out 0).trans rfl, (blk_cell BK144.out 1).trans rfl, (blk_cell BK144.out 2).trans rfl, (blk_cell BK144.out 3).trans rfl⟩ (fun hHeld => ?_)
      clear hK K
      refine norm_ zq33 ?_
      refine zpz (i := 16) (N := some 29) (any_of HT_.out zq1) ?_
      refine zpz (i := 17) (N := some 30) (any_of HT_.out zq1) ?_
      refine done_ (done_of HT_.out zq1) ?_
      try go_wp2
      go_ret
      exact ⟨zq34, zbz⟩
    · rw [if_neg c11] at H
      have c11b0 : decide (268435456 < (ji10)) = false := decide_eq_false c11
      clear c11
      obtain rfl := Option.some.inj H
      go_enter Try.func67, Try.ntmps67
      try go_wp2_with (first | ((with_reducible refine gate_dst (N := 1) rfl ?_); refine box_event (by rfl) (N := 1) (by rfl) (cs := #[.int .i64 a0_0, .int .i64 a0_1, .int .i64 a0_2, .int .i64 a0_3]) (t := 31) zq5 ?_; intro gb144 hg w23 hbox hb; have BK144 := Aside0.mk (hbox); have GW144 := zgs HB hg; have GE144 := zgs HB hg; replace HB := zbs HB hb; clear hb hbox hg; obtain ⟨hcz24_0, hcz24_1, hcz24_2, hcz24_3, hfz24_0, hfz24_1, hfz24_2, hfz24_3⟩ := zce4 BK144.out) | ((with_reducible refine gate_dst (N := 8) rfl ?_); refine Kd.R_lit k27 _ 27 (by rfl) (N := 8) (by rfl) (xs := ([(⟨a0_0, a0_1⟩ : S27), (⟨a0_2, a0_3⟩ : S27)] : List (S27))) (inner := [.int .i64 a0_0, .int .i64 a0_1, .int .i64 a0_2, .int .i64 a0_3]) (ok := fun _ => True) (okp := fun _ => True) zq5 zq29 (fun _ hk => hk) trivial (Below.refl _ _) (Nat.le_refl _) (by simp) ?_; intro v146 w25 ho26 hb hg_ hnew_; clear hg_ hnew_; (first | rw [← Ny145.out] at ho26 | (simp only [Int.reduceToNat] at ho26; rw [← Ny145.out] at ho26)); have HO147 := Aside0.mk (Kd.R_lower ho26 (below_size zbz)); replace BK144 := zbb BK144 hb; replace HB := zbs HB hb; clear hb ho26; obtain ⟨Ao27, co27, eo27⟩ := Kd.R_slice HO147.out; subst eo27) | ((with_reducible refine gate_callee (f := 116) rfl ?_); refine goesL_ (some 9) rfl rfl Try.func116 zq1 rfl #[.slice Ao27 y145.length co27] rfl zq8 ?_; (with_reducible refine (bound_check.calls k _ _ y145 t148 _ ?side1 ?side2 A2.out).mono ?_); (case side1 => repeat (first | exact (Kd.R_reads' HO147.out).2.2 | (with_reducible refine Kd.C_alloc ?_ _) | (with_reducible refine Kd.C_drewN ?_ _) | (with_reducible refine Kd.C_drew ?_))); (case side2 => exact (Kd.R_reads' HO147.out).2.1); rintro e w28 ⟨rfl, hb⟩; refine ⟨_, rfl, ?_⟩; replace HO147 := Aside0.mk (Kd.R_below zq30 hb); replace BK144 := zbb BK144 hb; replace HB := zbs HB hb; (try clear hb); (try clear hb2); (try clear hk); (try clear hi)))
      replace HO147 := Aside0.mk (Kd.R_drew HO147.out)
      replace BK144 := Aside0.mk (blk_drew BK144.out)
      replace HB := Aside0.mk (below_drew1 HB.out)
      refine start_ (n := 18) (S := fun w' => w'.cell? ⟨gb144, 0, none⟩ = some (.int .i64 a0_0) ∧ w'.cell? ⟨gb144, 1, none⟩ = some (.int .i64 a0_1) ∧ w'.cell? ⟨gb144, 2, none⟩ = some (.int .i64 a0_2) ∧ w'.cell? ⟨gb144, 3, none⟩ = some (.int .i64 a0_3)) (ds := []) #[false, false, false, false, false, false, false, false, false, false, false, false, false, false, false, false, false, false] zq1 rfl rfl ⟨(blk_cell BK144.out 0).trans rfl, (blk_cell BK144.out 1).trans rfl, (blk_cell BK144.out 2).trans rfl, (blk_cell BK144.out 3).trans rfl⟩ (fun hHeld => ?_); refine with_tabW bound_CheckBox.tab4 bound_CheckBox.bits4 (fun HT_ HW_ => ?_)
      generalize w28.drew = w29 at HO147 BK144 HB hHeld ⊢
      refine zpz (i := 0) (N := some 13) (any_of HT_.out zq1) ?_
      refine zpz (i := 1) (N := some 14) (any_of HT_.out zq1) ?_
      refine zpz (i := 4) (N := some 17) (any_of HT_.out zq1) ?_
      refine zpz (i := 5) (N := some 18) (any_of HT_.out zq1) ?_
      refine zpz (i := 8) (N := some 21) (any_of HT_.out zq1) ?_
      refine zpz (i := 9) (N := some 22) (any_of HT_.out zq1) ?_
      refine zpz (i := 12) (N := some 25) (any_of HT_.out zq1) ?_
      refine zpz (i := 13) (N := some 26) (any_of HT_.out zq1) ?_
      refine ztz (i := 2) (N := some 15) (take_ofW HT_.out HW_.out zq1) hHeld ?_
      refine ztz (i := 6) (N := some 19) (take_ofW HT_.out HW_.out zq1) hHeld ?_
      refine ztz (i := 10) (N := some 23) (take_ofW HT_.out HW_.out zq1) hHeld ?_
      refine ztz (i := 14) (N := some 27) (take_ofW HT_.out HW_.out zq1) hHeld ?_
      refine one_ (i := 3) (N := some 16) #[true, true, true, true, true, true, true, false, true, true, true, false, true, true, true, false, false, false] rfl rfl (one_of HT_.out zq1) (by decide) (fun K hK => ?_)
      refine goes_ Try.func117 zq1 rfl #[.int .i64 a0_0] (by rfl) rfl rfl zq8 ?_
      with_reducible refine (bound_amount.calls a0_0 t149 _ A4.out).mono ?_
      rintro e w30 ⟨rfl, hb⟩
      refine ⟨_, rfl, ?_⟩
      replace HO147 := Aside0.mk (Kd.R_below zq30 hb)
      replace BK144 := zbb BK144 hb
      replace HB := zbs HB hb
      (try clear hb)
      (try clear hb2)
      (try clear hk)
      (try clear hi)
      refine hK.out _ _ ⟨(blk_cell BK144.out 0).trans rfl, (blk_cell BK144.out 1).trans rfl, (blk_cell BK144.out 2).trans rfl, (blk_cell BK144.out 3).trans rfl⟩ (fun hHeld => ?_)
      clear hK K
      refine norm_ zq21 ?_
      refine one_ (i := 7) (N := some 20) #[true, true, true, true, true, true, true, true, true, true, true, false, true, true, true, false, false, false] rfl rfl (one_of HT_.out zq1) (by decide) (fun K hK => ?_)
      refine goes_ Try.func117 zq1 rfl #[.int .i64 a0_1] (by rfl) rfl rfl zq8 ?_
      with_reducible refine (bound_amount.calls a0_1 t150 _ A5.out).mono ?_
      rintro e w31 ⟨rfl, hb⟩
      refine ⟨_, rfl, ?_⟩
      replace HO147 := Aside0.mk (Kd.R_below zq30 hb)
      replace BK144 := zbb BK144 hb
      replace HB := zbs HB hb
      (try clear hb)
      (try clear hb2)
      (try clear hk)
      (try clear hi)
      refine hK.out _ _ ⟨(blk_cell BK144.out 0).trans rfl, (blk_cell BK144.out 1).trans rfl, (blk_cell BK144.out 2).trans rfl, (blk_cell BK144.out 3).trans rfl⟩ (fun hHeld => ?_)
      clear hK K
      refine norm_ zq31 ?_
      refine one_ (i := 11) (N := some 24) #[true, true, true, true, true, true, true, true, true, true, true, true, true, true, true, false, false, false] rfl rfl (one_of HT_.out zq1) (by decide) (fun K hK => ?_)
      refine goes_ Try.func117 zq1 rfl #[.int .i64 a0_2] (by rfl) rfl rfl zq8 ?_
      with_reducible refine (bound_amount.calls a0_2 t151 _ A6.out).mono ?_
      rintro e w32 ⟨rfl, hb⟩
      refine ⟨_, rfl, ?_⟩
      replace HO147 := Aside0.mk (Kd.R_below zq30 hb)
      replace BK144 := zbb BK144 hb
      replace HB := zbs HB hb
      (try clear hb)
      (try clear hb2)
      (try clear hk)
      (try clear hi)
      refine hK.out _ _ ⟨(blk_cell BK144.out 0).trans rfl, (blk_cell BK144.out 1).trans rfl, (blk_cell BK144.out 2).trans rfl, (blk_cell BK144.out 3).trans rfl⟩ (fun hHeld => ?_)
      clear hK K
      refine norm_ zq32 ?_
      refine one_ (i := 15) (N := some 28) #[true, true, true, true, true, true, true, true, true, true, true, true, true, true, true, true, false, false] rfl rfl (one_of HT_.out zq1) (by decide) (fun K hK => ?_)
      refine goes_ Try.func117 zq1 rfl #[.int .i64 a0_3] (by rfl) rfl rfl zq8 ?_
      with_reducible refine (bound_amount.calls a0_3 t152 _ A7.out).mono ?_
      rintro e w33 ⟨rfl, hb⟩
      refine ⟨_, rfl, ?_⟩
      replace HO147 := Aside0.mk (Kd.R_below zq30 hb)
      replace BK144 := zbb BK144 hb
      replace HB := zbs HB hb
      (try clear hb)
      (try clear hb2)
      (try clear hk)
      (try clear hi)
      refine hK.out _ _ ⟨(blk_cell BK144.out 0).trans rfl, (blk_cell BK144.out 1).trans rfl, (blk_cell BK144.out 2).trans rfl, (blk_cell BK144.out 3).trans rfl⟩ (fun hHeld => ?_)
      clear hK K
      refine norm_ zq33 ?_
      refine zpz (i := 16) (N := some 29) (any_of HT_.out zq1) ?_
      refine zpz (i := 17) (N := some 30) (any_of HT_.out zq1) ?_
      refine done_ (done_of HT_.out zq1) ?_
      try go_wp2
      go_ret
      exact ⟨zq34, zbz⟩
  · rw [if_neg c3] at H
    have c3b0 : (t148 == 0) = false := beq_eq_false_iff_ne.mpr c3
    have c3b1 : (t148 != 0) = true := bne_iff_ne.mpr c3
    obtain rfl := Option.some.inj H
    go_enter Try.func67, Try.ntmps67
    go_wp2_with (first | ((with_reducible refine gate_dst (N := 1) rfl ?_); refine box_event (by rfl) (N := 1) (by rfl) (cs := #[.int .i64 a0_0, .int .i64 a0_1, .int .i64 a0_2, .int .i64 a0_3]) (t := 31) zq5 ?_; intro gb144 hg w34 hbox hb; have BK144 := Aside0.mk (hbox); have GW144 := zgs HB hg; have GE144 := zgs HB hg; replace HB := zbs HB hb; clear hb hbox hg; obtain ⟨hcz35_0, hcz35_1, hcz35_2, hcz35_3, hfz35_0, hfz35_1, hfz35_2, hfz35_3⟩ := zce4 BK144.out) | ((with_reducible refine gate_dst (N := 8) rfl ?_); refine Kd.R_lit k27 _ 27 (by rfl) (N := 8) (by rfl) (xs := ([(⟨a0_0, a0_1⟩ : S27), (⟨a0_2, a0_3⟩ : S27)] : List (S27))) (inner := [.int .i64 a0_0, .int .i64 a0_1, .int .i64 a0_2, .int .i64 a0_3]) (ok := fun _ => True) (okp := fun _ => True) zq5 zq29 (fun _ hk => hk) trivial (Below.refl _ _) (Nat.le_refl _) (by simp) ?_; intro v146 w36 ho37 hb hg_ hnew_; clear hg_ hnew_; (first | rw [← Ny145.out] at ho37 | (simp only [Int.reduceToNat] at ho37; rw [← Ny145.out] at ho37)); have HO147 := Aside0.mk (Kd.R_lower ho37 (below_size zbz)); replace BK144 := zbb BK144 hb; replace HB := zbs HB hb; clear hb ho37; obtain ⟨Ao38, co38, eo38⟩ := Kd.R_slice HO147.out; subst eo38) | ((with_reducible refine gate_callee (f := 116) rfl ?_); refine goesL_ (some 9) rfl rfl Try.func116 zq1 rfl #[.slice Ao38 y145.length co38] rfl zq8 ?_; (with_reducible refine (bound_check.calls k _ _ y145 t148 _ ?side1 ?side2 A2.out).mono ?_); (case side1 => repeat (first | exact (Kd.R_reads' HO147.out).2.2 | (with_reducible refine Kd.C_alloc ?_ _) | (with_reducible refine Kd.C_drewN ?_ _) | (with_reducible refine Kd.C_drew ?_))); (case side2 => exact (Kd.R_reads' HO147.out).2.1); rintro e w39 ⟨rfl, hb⟩; refine ⟨_, rfl, ?_⟩; replace HO147 := Aside0.mk (Kd.R_below zq30 hb); replace BK144 := zbb BK144 hb; replace HB := zbs HB hb; (try clear hb); (try clear hb2); (try clear hk); (try clear hi)))
    go_ret
    exact ⟨zq6, zbz⟩

end Go.Proofs.Ytmhaiihjfgfaoaa.Pr
end
section
namespace Go.Proofs.Ytmhaiihjfgfaoaa.Pr
open Go.RowKit Go.Proofs.YtmhaiihjfgfaoaaW.PrintWords Go.Proofs.YtmhaiihjfgfaoaaW.PrintLast Go.Proofs.YtmhaiihjfgfaoaaW.PrintMore
attribute [local go_sem] max2_int min2_int max_two min_two max_four
set_option linter.unusedVariables false
set_option linter.unusedSimpArgs false

/-! ### glider_checkPlace: function 114 -/
def glider_checkPlace.f (k : Nat) (a0_0 : Int) (a0_1 : Int) (a0_2 : Int) (a0_3 : Int) (a1 : Int) : Option (Int) := (bound_CheckBox.f k a0_0 a0_1 a0_2 a0_3).bind fun t154 => (if t154 = 0 then ((glider_between.f a1 0 1073741824).bind fun t155 => (if t155 = true then (some 0) else (some 3))) else (some t154))
set_option maxHeartbeats 8000000 in
set_option maxRecDepth 100000 in
theorem glider_checkPlace.calls (k : Nat) (a0_0 : Int) (a0_1 : Int) (a0_2 : Int) (a0_3 : Int) (a1 : Int) (r : Int) (w : World) (h : glider_checkPlace.f k a0_0 a0_1 a0_2 a0_3 a1 = some r) :
    Calls Try.prog 114 #[.agg #[.int .i64 a0_0, .int .i64 a0_1, .int .i64 a0_2, .int .i64 a0_3], .int .i64 a1] w fun e w' => e = .returned (.int .i64 r) ∧ Below w.heap.size w w' := by
  have hu31 := Try.underlying31
  have HB := Aside0.mk (Below.refl w.heap.size w)
  have H : ((bound_CheckBox.f k a0_0 a0_1 a0_2 a0_3).bind fun t154 => (if t154 = 0 then ((glider_between.f a1 0 1073741824).bind fun t155 => (if t155 = true then (some 0) else (some 3))) else (some t154))) = some r := h
  clear h
  replace H := Option.bind_eq_some_iff.mp H
  obtain ⟨t154, A30, H⟩ := H
  replace H : (if t154 = 0 then ((glider_between.f a1 0 1073741824).bind fun t155 => (if t155 = true then (some 0) else (some 3))) else (some t154)) = some r := H
  have A3 := Aside0.mk A30
  clear A30
  by_cases c4 : t154 = 0
  · rw [if_pos c4] at H
    have c4b0 : (t154 == 0) = true := beq_iff_eq.mpr c4
    have c4b1 : (t154 != 0) = false := bne_eq_false_iff_eq.mpr c4
    clear c4
    replace H := Option.bind_eq_some_iff.mp H
    obtain ⟨t155, A50, H⟩ := H
    replace H : (if t155 = true then (some 0) else (some 3)) = some r := H
    have A5 := Aside0.mk A50
    clear A50
    by_cases c6 : t155 = true
    · subst c6
      have H1 : (some 0) = some r := by rw [if_pos rfl] at H; exact H
      clear H
      have H := H1
      clear H1
      obtain rfl := Option.some.inj H
      go_enter Try.func114, Try.ntmps114
      go_wp2_with (first | ((with_reducible refine gate_dst (N := 2) rfl ?_); refine box_event (by rfl) (N := 2) (by rfl) (cs := #[.int .i64 a0_0, .int .i64 a0_1, .int .i64 a0_2, .int .i64 a0_3]) (t := 31) zq5 ?_; intro gb153 hg w7 hbox hb; have BK153 := Aside0.mk (hbox); have GW153 := zgs HB hg; have GE153 := zgs HB hg; replace HB := zbs HB hb; clear hb hbox hg; obtain ⟨hcz8_0, hcz8_1, hcz8_2, hcz8_3, hfz8_0, hfz8_1, hfz8_2, hfz8_3⟩ := zce4 BK153.out) | ((with_reducible refine gate_callee (f := 67) rfl ?_); refine goesL_ (some 7) rfl rfl Try.func67 zq1 rfl #[.agg #[.int .i64 a0_0, .int .i64 a0_1, .int .i64 a0_2, .int .i64 a0_3]] rfl zq8 ?_; (with_reducible refine (bound_CheckBox.calls k a0_0 a0_1 a0_2 a0_3 t154 _ A3.out).mono ?_); rintro e w9 ⟨rfl, hb⟩; refine ⟨_, rfl, ?_⟩; replace BK153 := zbb BK153 hb; replace HB := zbs HB hb; (try clear hb); (try clear hb2); (try clear hk); (try clear hi)) | ((with_reducible refine gate_callee (f := 74) rfl ?_); refine goesL_ (some 12) rfl rfl Try.func74 zq1 rfl #[.int .i64 a1, .int .i64 0, .int .i64 1073741824] rfl zq8 ?_; (with_reducible refine (glider_between.calls a1 0 1073741824 true _ A5.out).mono ?_); rintro e w' ⟨rfl, ⟨nd, rfl⟩⟩; refine ⟨_, rfl, ?_⟩))
      go_ret
      exact ⟨zq6, zbz⟩
    · replace c6 := Bool.eq_false_iff.mpr c6
      subst c6
      have H1 : (some 3) = some r := by rw [if_neg (show ¬ (false = true) by decide)] at H; exact H
      clear H
      have H := H1
      clear H1
      obtain rfl := Option.some.inj H
      go_enter Try.func114, Try.ntmps114
      go_wp2_with (first | ((with_reducible refine gate_dst (N := 2) rfl ?_); refine box_event (by rfl) (N := 2) (by rfl) (cs := #[.int .i64 a0_0, .int .i64 a0_1, .int .i64 a0_2, .int .i64 a0_3]) (t := 31) zq5 ?_; intro gb153 hg w10 hbox hb; have BK153 := Aside0.mk (hbox); have GW153 := zgs HB hg; have GE153 := zgs HB hg; replace HB := zbs HB hb; clear hb hbox hg; obtain ⟨hcz11_0, hcz11_1, hcz11_2, hcz11_3, hfz11_0, hfz11_1, hfz11_2, hfz11_3⟩ := zce4 BK153.out) | ((with_reducible refine gate_callee (f := 67) rfl ?_); refine goesL_ (some 7) rfl rfl Try.func67 zq1 rfl #[.agg #[.int .i64 a0_0, .int .i64 a0_1, .int .i64 a0_2, .int .i64 a0_3]] rfl zq8 ?_; (with_reducible refine (bound_CheckBox.calls k a0_0 a0_1 a0_2 a0_3 t154 _ A3.out).mono ?_); rintro e w12 ⟨rfl, hb⟩; refine ⟨_, rfl, ?_⟩; replace BK153 := zbb BK153 hb; replace HB := zbs HB hb; (try clear hb); (try clear hb2); (try clear hk); (try clear hi)) | ((with_reducible refine gate_callee (f := 74) rfl ?_); refine goesL_ (some 12) rfl rfl Try.func74 zq1 rfl #[.int .i64 a1, .int .i64 0, .int .i64 1073741824] rfl zq8 ?_; (with_reducible refine (glider_between.calls a1 0 1073741824 false _ A5.out).mono ?_); rintro e w' ⟨rfl, ⟨nd, rfl⟩⟩; refine ⟨_, rfl, ?_⟩))
      go_ret
      exact ⟨zq6, zbz⟩
  · rw [if_neg c4] at H
    have c4b0 : (t154 == 0) = false := beq_eq_false_iff_ne.mpr c4
    have c4b1 : (t154 != 0) = true := bne_iff_ne.mpr c4
    obtain rfl := Option.some.inj H
    go_enter Try.func114, Try.ntmps114
    go_wp2_with (first | ((with_reducible refine gate_dst (N := 2) rfl ?_); refine box_event (by rfl) (N := 2) (by rfl) (cs := #[.int .i64 a0_0, .int .i64 a0_1, .int .i64 a0_2, .int .i64 a0_3]) (t := 31) zq5 ?_; intro gb153 hg w13 hbox hb; have BK153 := Aside0.mk (hbox); have GW153 := zgs HB hg; have GE153 := zgs HB hg; replace HB := zbs HB hb; clear hb hbox hg; obtain ⟨hcz14_0, hcz14_1, hcz14_2, hcz14_3, hfz14_0, hfz14_1, hfz14_2, hfz14_3⟩ := zce4 BK153.out) | ((with_reducible refine gate_callee (f := 67) rfl ?_); refine goesL_ (some 7) rfl rfl Try.func67 zq1 rfl #[.agg #[.int .i64 a0_0, .int .i64 a0_1, .int .i64 a0_2, .int .i64 a0_3]] rfl zq8 ?_; (with_reducible refine (bound_CheckBox.calls k a0_0 a0_1 a0_2 a0_3 t154 _ A3.out).mono ?_); rintro e w15 ⟨rfl, hb⟩; refine ⟨_, rfl, ?_⟩; replace BK153 := zbb BK153 hb; replace HB := zbs HB hb; (try clear hb); (try clear hb2); (try clear hk); (try clear hi)))
    go_ret
    exact ⟨zq6, zbz⟩

end Go.Proofs.Ytmhaiihjfgfaoaa.Pr
end
section
namespace Go.Proofs.Ytmhaiihjfgfaoaa.Pr
open Go.RowKit Go.Proofs.YtmhaiihjfgfaoaaW.PrintWords Go.Proofs.YtmhaiihjfgfaoaaW.PrintLast Go.Proofs.YtmhaiihjfgfaoaaW.PrintMore
attribute [local go_sem] max2_int min2_int max_two min_two max_four
set_option linter.unusedVariables false
set_option linter.unusedSimpArgs false

/-! ### glider_checkCourses: function 65 -/
def glider_checkCourses.l0 : Nat → Int → List (S33) → Int → Int → Option (Int)
  | 0, _, _, _, _ => none
  | k + 1, x1, x10, x11, x12 => if x12 < x11 then (if 0 ≤ x12 then (if x12 < (x10.length : Int) then (if ((rd_T33 x10 x12).f0) < 0 then (some 2) else (if ((rd_T33 x10 x12).f0) ≥ 9 then (some 2) else (if ((rd_T33 x10 x12).f1) < 0 then (some 2) else (if x1 ≥ 0 then (if ((rd_T33 x10 x12).f1) ≥ x1 then (some 2) else (glider_checkCourses.l0 k x1 x10 x11 (wrap64 (x12 + 1)))) else (glider_checkCourses.l0 k x1 x10 x11 (wrap64 (x12 + 1))))))) else (none)) else (none)) else (some 0)
def glider_checkCourses.f (k : Nat) (l0 : List (S33)) (a1 : Int) : Option (Int) := if (l0.length : Int) > 64 then (some 6) else (glider_checkCourses.l0 k a1 l0 (l0.length : Int) 0)
theorem glider_checkCourses.mono_l : ∀ k, (∀ y0 y1 y2 y3, LeO (glider_checkCourses.l0 k y0 y1 y2 y3) (glider_checkCourses.l0 (k + 1) y0 y1 y2 y3))
  | 0 => fun _ _ _ _ r h => by simp [glider_checkCourses.l0] at h
  | k + 1 => by
    have ih0 := glider_checkCourses.mono_l k
    · intro y0 y1 y2 y3
      unfold glider_checkCourses.l0
      repeat' first
      | (with_reducible exact ih0 _ _ _ _)
      | (with_reducible exact LeO.refl _)
      | (with_reducible exact LeO.none _)
      | (with_reducible refine LeO.ite ?_ ?_)
      | (with_reducible refine LeO.bind ?_ (fun _ => ?_))
      | exact ih0 _ _ _ _
      | exact LeO.none _
      | refine LeO.ite ?_ ?_
      | refine LeO.bind ?_ (fun _ => ?_)
theorem glider_checkCourses.mono : ∀ a0 a1 k, LeO (glider_checkCourses.f k a0 a1) (glider_checkCourses.f (k + 1) a0 a1) := by
  intro a0 a1 k
  have ih0 := glider_checkCourses.mono_l k
  unfold glider_checkCourses.f
  repeat' first
      | (with_reducible exact ih0 _ _ _ _)
      | (with_reducible exact LeO.refl _)
      | (with_reducible exact LeO.none _)
      | (with_reducible refine LeO.ite ?_ ?_)
      | (with_reducible refine LeO.bind ?_ (fun _ => ?_))
      | exact ih0 _ _ _ _
      | exact LeO.none _
      | refine LeO.ite ?_ ?_
      | refine LeO.bind ?_ (fun _ => ?_)
set_option maxHeartbeats 8000000 in
set_option maxRecDepth 100000 in
theorem glider_checkCourses.calls (k : Nat) (A0 : Option Addr) (c0 : Nat) (l0 : List (S33)) (a1 : Int) (r : Int) (w : World) (hr0 : Kd.C k33 w A0 l0.length l0) (hc0 : l0.length ≤ c0) (h : glider_checkCourses.f k l0 a1 = some r) :
    Calls Try.prog 65 #[.slice A0 l0.length c0, .int .i64 a1] w fun e w' => e = .returned (.int .i64 r) ∧ Below w.heap.size w w' := by
  have hu33 := Try.underlying33
  have HR0 := Aside0.mk hr0
  have HC0 := Aside0.mk hc0
  clear hr0 hc0
  have HB := Aside0.mk (Below.refl w.heap.size w)
  have H : (if (l0.length : Int) > 64 then (some 6) else (glider_checkCourses.l0 k a1 l0 (l0.length : Int) 0)) = some r := h
  clear h
  by_cases c3 : (l0.length : Int) > 64
  · rw [if_pos c3] at H
    have c3b0 : decide (64 < (l0.length : Int)) = true := decide_eq_true c3
    have c3b1 : decide (64 < l0.length) = true := decide_eq_true (by omega)
    clear c3
    obtain rfl := Option.some.inj H
    go_enter Try.func65, Try.ntmps65
    go_wp2
    go_ret
    exact ⟨zq6, zbz⟩
  · rw [if_neg c3] at H
    have c3b0 : decide (64 < (l0.length : Int)) = false := decide_eq_false c3
    have c3b1 : decide (64 < l0.length) = false := decide_eq_false (by omega)
    clear c3
    have H' := Aside0.mk H
    clear H
    go_enter Try.func65, Try.ntmps65
    go_wp2
    go_loopg [12] k (fun kq v12 w' => ∃ (x12_1 : Int), v12 = .int .i64 x12_1 ∧ Aside0 (glider_checkCourses.l0 kq a1 l0 (l0.length : Int) x12_1 = some r) ∧ Aside0 (kq ≤ k) ∧ Aside0 (Below w.heap.size w w'))
    case atStart => exact ⟨(0), zq2, H', ⟨Nat.le_refl _⟩, ⟨zbz⟩⟩
    case round =>
      clear H'
      try clear p2
      try clear c3
      try clear c3b0
      try clear c3b1
      obtain ⟨x12_1, rfl, HA, HK1, HB⟩ := hrel
      cases gk with
      | zero => exact absurd HA.out (by simp [glider_checkCourses.l0])
      | succ k1 =>
        have H := HA.out
        clear HA
        simp only [glider_checkCourses.l0] at H
        by_cases c4 : x12_1 < (l0.length : Int)
        · rw [if_pos c4] at H
          have c4b0 : decide (x12_1 < (l0.length : Int)) = true := decide_eq_true c4
          clear c4
          by_cases c5 : 0 ≤ x12_1
          · rw [if_pos c5] at H
            have c5b0 : decide (0 ≤ x12_1) = true := decide_eq_true c5
            clear c5
            by_cases c6 : x12_1 < (l0.length : Int)
            · rw [if_pos c6] at H
              have c6b0 : decide (x12_1 < (l0.length : Int)) = true := decide_eq_true c6
              clear c6
              by_cases c7 : ((rd_T33 l0 x12_1).f0) < 0
              · rw [if_pos c7] at H
                have c7b0 : decide (((rd_T33 l0 x12_1).f0) < 0) = true := decide_eq_true c7
                clear c7
                obtain rfl := Option.some.inj H
                have p156 : 0 ≤ (x12_1 : Int) := of_decide_eq_true zq4
                have q156 : x12_1 < (l0.length : Int) := of_decide_eq_true zq4
                obtain ⟨ad156, e156, hx156_0, hx156_1⟩ := at_T33 HR0.out x12_1 p156 q156
                cases e156
                replace hx156_0 := (HB.out.cell (World.block_lt_of_cell? w _ hx156_0)).trans hx156_0
                replace hx156_1 := (HB.out.cell (World.block_lt_of_cell? w _ hx156_1)).trans hx156_1
                replace p156 := eq_true p156
                replace q156 := eq_true q156
                go_wp2_with (first | ((with_reducible refine gate_dst (N := 6) rfl ?_); refine box_event (by rfl) (N := 6) (by rfl) (cs := #[.int .i64 0, .int .i64 0]) (t := 33) zq5 ?_; intro gb157 hg w8 hbox hb; have BK157 := Aside0.mk (hbox); have GW157 := zgs HB hg; have GE157 := zgs HB hg; replace HB := zbs HB hb; clear hb hbox hg; obtain ⟨hcz9_0, hcz9_1, hfz9_0, hfz9_1⟩ := zce2 BK157.out))
                go_ret
                exact ⟨zq6, zbz⟩
              · rw [if_neg c7] at H
                have c7b0 : decide (((rd_T33 l0 x12_1).f0) < 0) = false := decide_eq_false c7
                clear c7
                by_cases c10 : ((rd_T33 l0 x12_1).f0) ≥ 9
                · rw [if_pos c10] at H
                  have c10b0 : decide (9 ≤ ((rd_T33 l0 x12_1).f0)) = true := decide_eq_true c10
                  clear c10
                  obtain rfl := Option.some.inj H
                  have p156 : 0 ≤ (x12_1 : Int) := of_decide_eq_true zq4
                  have q156 : x12_1 < (l0.length : Int) := of_decide_eq_true zq4
                  obtain ⟨ad156, e156, hx156_0, hx156_1⟩ := at_T33 HR0.out x12_1 p156 q156
                  cases e156
                  replace hx156_0 := (HB.out.cell (World.block_lt_of_cell? w _ hx156_0)).trans hx156_0
                  replace hx156_1 := (HB.out.cell (World.block_lt_of_cell? w _ hx156_1)).trans hx156_1
                  replace p156 := eq_true p156
                  replace q156 := eq_true q156
                  go_wp2_with (first | ((with_reducible refine gate_dst (N := 6) rfl ?_); refine box_event (by rfl) (N := 6) (by rfl) (cs := #[.int .i64 0, .int .i64 0]) (t := 33) zq5 ?_; intro gb157 hg w11 hbox hb; have BK157 := Aside0.mk (hbox); have GW157 := zgs HB hg; have GE157 := zgs HB hg; replace HB := zbs HB hb; clear hb hbox hg; obtain ⟨hcz12_0, hcz12_1, hfz12_0, hfz12_1⟩ := zce2 BK157.out))
                  go_ret
                  exact ⟨zq6, zbz⟩
                · rw [if_neg c10] at H
                  have c10b0 : decide (9 ≤ ((rd_T33 l0 x12_1).f0)) = false := decide_eq_false c10
                  clear c10
                  by_cases c13 : ((rd_T33 l0 x12_1).f1) < 0
                  · rw [if_pos c13] at H
                    have c13b0 : decide (((rd_T33 l0 x12_1).f1) < 0) = true := decide_eq_true c13
                    clear c13
                    obtain rfl := Option.some.inj H
                    have p156 : 0 ≤ (x12_1 : Int) := of_decide_eq_true zq4
                    have q156 : x12_1 < (l0.length : Int) := of_decide_eq_true zq4
                    obtain ⟨ad156, e156, hx156_0, hx156_1⟩ := at_T33 HR0.out x12_1 p156 q156
                    cases e156
                    replace hx156_0 := (HB.out.cell (World.block_lt_of_cell? w _ hx156_0)).trans hx156_0
                    replace hx156_1 := (HB.out.cell (World.block_lt_of_cell? w _ hx156_1)).trans hx156_1
                    replace p156 := eq_true p156
                    replace q156 := eq_true q156
                    go_wp2_with (first | ((with_reducible refine gate_dst (N := 6) rfl ?_); refine box_event (by rfl) (N := 6) (by rfl) (cs := #[.int .i64 0, .int .i64 0]) (t := 33) zq5 ?_; intro gb157 hg w14 hbox hb; have BK157 := Aside0.mk (hbox); have GW157 := zgs HB hg; have GE157 := zgs HB hg; replace HB := zbs HB hb; clear hb hbox hg; obtain ⟨hcz15_0, hcz15_1, hfz15_0, hfz15_1⟩ := zce2 BK157.out))
                    go_ret
                    exact ⟨zq6, zbz⟩
                  · rw [if_neg c13] at H
                    have c13b0 : decide (((rd_T33 l0 x12_1).f1) < 0) = false := decide_eq_false c13
                    clear c13
                    by_cases c16 : a1 ≥ 0
                    · rw [if_pos c16] at H
                      have c16b0 : decide (0 ≤ a1) = true := decide_eq_true c16
                      clear c16
                      by_cases c17 : ((rd_T33 l0 x12_1).f1) ≥ a1
                      · rw [if_pos c17] at H
                        have c17b0 : decide (a1 ≤ ((rd_T33 l0 x12_1).f1)) = true := decide_eq_true c17
                        clear c17
                        obtain rfl := Option.some.inj H
                        have p156 : 0 ≤ (x12_1 : Int) := of_decide_eq_true zq4
                        have q156 : x12_1 < (l0.length : Int) := of_decide_eq_true zq4
                        obtain ⟨ad156, e156, hx156_0, hx156_1⟩ := at_T33 HR0.out x12_1 p156 q156
                        cases e156
                        replace hx156_0 := (HB.out.cell (World.block_lt_of_cell? w _ hx156_0)).trans hx156_0
                        replace hx156_1 := (HB.out.cell (World.block_lt_of_cell? w _ hx156_1)).trans hx156_1
                        replace p156 := eq_true p156
                        replace q156 := eq_true q156
                        go_wp2_with (first | ((with_reducible refine gate_dst (N := 6) rfl ?_); refine box_event (by rfl) (N := 6) (by rfl) (cs := #[.int .i64 0, .int .i64 0]) (t := 33) zq5 ?_; intro gb157 hg w18 hbox hb; have BK157 := Aside0.mk (hbox); have GW157 := zgs HB hg; have GE157 := zgs HB hg; replace HB := zbs HB hb; clear hb hbox hg; obtain ⟨hcz19_0, hcz19_1, hfz19_0, hfz19_1⟩ := zce2 BK157.out))
                        go_ret
                        exact ⟨zq6, zbz⟩
                      · rw [if_neg c17] at H
                        have c17b0 : decide (a1 ≤ ((rd_T33 l0 x12_1).f1)) = false := decide_eq_false c17
                        clear c17
                        have H' := Aside0.mk H
                        clear H
                        have p156 : 0 ≤ (x12_1 : Int) := of_decide_eq_true zq4
                        have q156 : x12_1 < (l0.length : Int) := of_decide_eq_true zq4
                        obtain ⟨ad156, e156, hx156_0, hx156_1⟩ := at_T33 HR0.out x12_1 p156 q156
                        cases e156
                        replace hx156_0 := (HB.out.cell (World.block_lt_of_cell? w _ hx156_0)).trans hx156_0
                        replace hx156_1 := (HB.out.cell (World.block_lt_of_cell? w _ hx156_1)).trans hx156_1
                        replace p156 := eq_true p156
                        replace q156 := eq_true q156
                        go_wp2_with (first | ((with_reducible refine gate_dst (N := 6) rfl ?_); refine box_event (by rfl) (N := 6) (by rfl) (cs := #[.int .i64 0, .int .i64 0]) (t := 33) zq5 ?_; intro gb157 hg w20 hbox hb; have BK157 := Aside0.mk (hbox); have GW157 := zgs HB hg; have GE157 := zgs HB hg; replace HB := zbs HB hb; clear hb hbox hg; obtain ⟨hcz21_0, hcz21_1, hfz21_0, hfz21_1⟩ := zce2 BK157.out))
                        go_roundg k1
                        case measure => have := HK1.out; omega
                        case rel => exact ⟨(wrap64 (x12_1 + 1)), zq2, H', ⟨zq7⟩, ⟨zbz⟩⟩
                    · rw [if_neg c16] at H
                      have c16b0 : decide (0 ≤ a1) = false := decide_eq_false c16
                      clear c16
                      have H' := Aside0.mk H
                      clear H
                      have p156 : 0 ≤ (x12_1 : Int) := of_decide_eq_true zq4
                      have q156 : x12_1 < (l0.length : Int) := of_decide_eq_true zq4
                      obtain ⟨ad156, e156, hx156_0, hx156_1⟩ := at_T33 HR0.out x12_1 p156 q156
                      cases e156
                      replace hx156_0 := (HB.out.cell (World.block_lt_of_cell? w _ hx156_0)).trans hx156_0
                      replace hx156_1 := (HB.out.cell (World.block_lt_of_cell? w _ hx156_1)).trans hx156_1
                      replace p156 := eq_true p156
                      replace q156 := eq_true q156
                      go_wp2_with (first | ((with_reducible refine gate_dst (N := 6) rfl ?_); refine box_event (by rfl) (N := 6) (by rfl) (cs := #[.int .i64 0, .int .i64 0]) (t := 33) zq5 ?_; intro gb157 hg w22 hbox hb; have BK157 := Aside0.mk (hbox); have GW157 := zgs HB hg; have GE157 := zgs HB hg; replace HB := zbs HB hb; clear hb hbox hg; obtain ⟨hcz23_0, hcz23_1, hfz23_0, hfz23_1⟩ := zce2 BK157.out))
                      go_roundg k1
                      case measure => have := HK1.out; omega
                      case rel => exact ⟨(wrap64 (x12_1 + 1)), zq2, H', ⟨zq7⟩, ⟨zbz⟩⟩
            · rw [if_neg c6] at H
              exact absurd H (by simp)
          · rw [if_neg c5] at H
            exact absurd H (by simp)
        · rw [if_neg c4] at H
          have c4b0 : decide (x12_1 < (l0.length : Int)) = false := decide_eq_false c4
          clear c4
          obtain rfl := Option.some.inj H
          go_wp2
          go_ret
          exact ⟨zq6, zbz⟩

end Go.Proofs.Ytmhaiihjfgfaoaa.Pr
end
