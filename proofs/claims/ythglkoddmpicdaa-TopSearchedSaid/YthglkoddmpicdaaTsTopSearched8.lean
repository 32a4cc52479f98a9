/- Part 8 of the proof of TopSearched: what the functions compute. No condition. -/
import Derived.Test.YthglkoddmpicdaaTsTopSearched3
import Derived.Test.YthglkoddmpicdaaTsTopSearched7
set_option linter.unusedVariables false
set_option linter.unusedSimpArgs false
section
/- The current at a box. -/
namespace Go.Proofs.Ythglkoddmpicdaa.Gl
open Go.RowKit Go.Shelf Go.Proofs.YthglkoddmpicdaaW.PrintWords Go.Proofs.YthglkoddmpicdaaW.PrintLast Go.Proofs.YthglkoddmpicdaaW.PrintMore Go.Proofs.Ythglkoddmpicdaa.Pr Go.Proofs.YthglkoddmpicdaaW.Round
set_option linter.unusedVariables false
set_option linter.unusedSimpArgs false
attribute [local go_sem] max2_int min2_int max_two min_two max_four
attribute [local go_sem] Oper.semAt_some
theorem mn_min' (a b : Int) : mn a b = min a b := by unfold mn; split <;> omega
theorem mx_max' (a b : Int) : mx a b = max a b := by unfold mx; split <;> omega
/-- The hull of two boxes. -/
def hullB (a b : S29) : S29 := ⟨⟨min a.f0.f0 b.f0.f0, max a.f0.f1 b.f0.f1⟩, ⟨min a.f1.f0 b.f1.f0, max a.f1.f1 b.f1.f1⟩⟩
def hullO (o : Option S29) (y : S29) : Option S29 := some (match o with | none => y | some z => hullB z y)
/-- The hull of some boxes; none of no box. -/
def hullL (l : List S29) : Option S29 := l.foldl hullO none
theorem hullL_snoc (l : List S29) (y : S29) : hullL (l ++ [y]) = hullO (hullL l) y := by unfold hullL; rw [List.foldl_append]; rfl
/-- The current of a cell in a slot, as a box. -/
def curB (s : Sea) (layer j c : Int) : S29 := ⟨(rd_T33 s.currents ((j * s.layers + layer) * (s.nx * s.ny) + c)).f0, (rd_T33 s.currents ((j * s.layers + layer) * (s.nx * s.ny) + c)).f1⟩
def slotL (s : Sea) (x : S29) (layer j : Int) : List S29 := (touchL s x).map (curB s layer j)
def boxesL (s : Sea) (x : S29) (layer j0 : Int) (q : Nat) : List S29 := (List.range q).flatMap fun r : Nat => slotL s x layer (j0 + (r : Int))
theorem boxesL_succ (s : Sea) (x : S29) (layer j0 : Int) (q : Nat) : boxesL s x layer j0 (q + 1) = boxesL s x layer j0 q ++ slotL s x layer (j0 + (q : Int)) := by
 unfold boxesL
 rw [List.range_succ, List.flatMap_append, List.flatMap_singleton]
/-- The current at a box. -/
def atI (s : Sea) (x : S29) (layer t u : Int) : S29 := (hullL (boxesL s x layer (t / s.slot) ((u - 1) / s.slot + 1 - t / s.slot).toNat)).getD z29
/-- What a round keeps: what lay below w, and what the iterator has captured. -/
def KpT (w : World) (bp bx b : Nat) (x : S29) (A B : World) : Prop := Below w.heap.size A B ∧ (Blk A bp #[.pointer (some ⟨b, 0, none⟩)] 118 → Blk B bp #[.pointer (some ⟨b, 0, none⟩)] 118) ∧ (Blk A bx #[.int .i64 x.f0.f0, .int .i64 x.f0.f1, .int .i64 x.f1.f0, .int .i64 x.f1.f1] 29 → Blk B bx #[.int .i64 x.f0.f0, .int .i64 x.f0.f1, .int .i64 x.f1.f0, .int .i64 x.f1.f1] 29)
theorem KpT.trans {w : World} {bp bx b : Nat} {x : S29} {A B C : World} (h : KpT w bp bx b x A B) (k : KpT w bp bx b x B C) : KpT w bp bx b x A C := ⟨h.1.trans k.1, fun q => k.2.1 (h.2.1 q), fun q => k.2.2 (h.2.2 q)⟩
theorem KpT.put {w W0 : World} {bp bx b : Nat} {x : S29} (hw : w.heap.size ≤ W0.heap.size) (hp : bp < W0.heap.size) (hx : bx < W0.heap.size) (W : World) (l : Nat) (o o' : Obj) (hl : W0.heap.size ≤ l) (h : W.heap[l]? = some o) (h1 : o.isCells = false) (h2 : o.isWalk = false) : KpT w bp bx b x W (W.putObj l o') :=
 ⟨belowK_b hw W l o o' hl h h1 h2, fun q => (World.putObj_heap_other (by omega)).trans q, fun q => (World.putObj_heap_other (by omega)).trans q⟩
theorem KpT.below {w : World} {bp bx b : Nat} {x : S29} {A B : World} (hw : w.heap.size ≤ A.heap.size) (h : Below A.heap.size A B) : KpT w bp bx b x A B := ⟨h.mono hw, fun q => Blk.belowH q h, fun q => Blk.belowH q h⟩
theorem KpT.set {w : World} {bp bx b : Nat} {x : S29} {A B : World} (h : KpT w bp bx b x A B) {p : Addr} (hp : w.heap.size ≤ p.block) (h1 : bp ≠ p.block) (h2 : bx ≠ p.block) (u : Value) : KpT w bp bx b x A (B.setCell p u) := ⟨h.1.setCell hp u, fun q => blk_far (h.2.1 q) h1 u, fun q => blk_far (h.2.2 q) h2 u⟩
/-- A mark among the deferred calls. -/
def mark (D_ : Nat) : Deferred := { target := .collected D_, args := #[] }
/-- The marks of the ranges over functions that are over. -/
def Marks (W : World) (B : Nat) (Ds : List Nat) : Prop := Ds.Nodup ∧ ∀ D_ ∈ Ds, B ≤ D_ ∧ W.heap[D_]? = some (.deferred (some []))
theorem Marks.nil (W : World) (B : Nat) : Marks W B [] := ⟨List.nodup_nil, fun D_ h => by cases h⟩
theorem Marks.below {W W1 : World} {B : Nat} {Ds : List Nat} (h : Marks W B Ds) (hb : Below W.heap.size W W1) : Marks W1 B Ds :=
 ⟨h.1, fun D_ hD => ⟨(h.2 D_ hD).1, (hb.block D_ (Array.getElem?_eq_some_iff.1 (h.2 D_ hD).2).1).trans (h.2 D_ hD).2⟩⟩
theorem Marks.cons {W : World} {B D_ : Nat} {Ds : List Nat} (h : Marks W B Ds) (hn : D_ ∉ Ds) (hB : B ≤ D_) (hD : W.heap[D_]? = some (.deferred (some []))) : Marks W B (D_ :: Ds) :=
 ⟨List.nodup_cons.2 ⟨hn, h.1⟩, fun E hE => by
  rcases List.mem_cons.1 hE with rfl | hE
  ·exact ⟨hB, hD⟩
  ·exact h.2 E hE⟩
theorem Marks.set {W : World} {B : Nat} {Ds : List Nat} (h : Marks W B Ds) {g i : Nat} {cs : Array Value} {t : TypeId} (hg : W.heap[g]? = some (.cells cs t (0, 0))) (u : Value) : Marks (W.setCell ⟨g, i, none⟩ u) B Ds :=
 ⟨h.1, fun D_ hD => ⟨(h.2 D_ hD).1, (Below.heap_setCell _ _ _ D_ (fun e => by
  have h2 := (h.2 D_ hD).2
  rw [show D_ = g from e, hg] at h2
  cases h2)).trans (h.2 D_ hD).2⟩⟩
theorem marks_ownFrom {β : Type} (B B0 : Nat) (Ds : List Nat) (h : ∀ D_ ∈ Ds, D_ < B) : OwnFrom B (fun (_ : β) W => Marks W B0 Ds) := fun s X Y row hs hg hr =>
 ⟨hs.1, fun D_ hD => ⟨(hs.2 D_ hD).1, (hg.block D_ (Array.getElem?_eq_some_iff.1 (hs.2 D_ hD).2).1 (fun e => by have h1 := (hr D_ e.symm).1; have h2 := h D_ hD; omega)).trans (hs.2 D_ hD).2⟩⟩
/-- A function leaves with marks: each is taken, and what abides this is said at the end. -/
theorem leaves_marks {P : Program} {F : Fence} {n : Nat} {fn : Func} {tmps : Array Value} {R : Ending → World → Prop} {B : Nat} (I : World → Prop) (hI : ∀ W D_, I W → B ≤ D_ → W.heap[D_]? = some (.deferred (some [])) → I (W.putObj D_ (.deferred none)))
  (hend : ∀ W, I W → LeavesInM F n P fn tmps R [] .returning W) : ∀ (Ds : List Nat) (W : World), Marks W B Ds → I W → LeavesInM F n P fn tmps R (Ds.map mark) .returning W
 | [], W, _, h => hend W h
 | D_ :: Ds, W, hM, h => by
  have hD := hM.2 D_ List.mem_cons_self
  refine ⟨by simp, .inl ⟨D_, _, rfl, run_takeDeferred hD.2, ?_⟩⟩
  refine leaves_marks I hI hend Ds _ ⟨(List.nodup_cons.1 hM.1).2, fun E hE => ?_⟩ (hI W D_ h hD.1 hD.2)
  have hE2 := hM.2 E (List.mem_cons_of_mem _ hE)
  have hne : E ≠ D_ := fun e => (List.nodup_cons.1 hM.1).1 (e ▸ hE)
  exact ⟨hE2.1, (World.putObj_heap_other (fun e => hne e)).trans hE2.2⟩
theorem index_in {q l k c ll kk : Int} (h0 : 0 ≤ q) (h1 : q < ll) (h2 : 0 ≤ l) (h3 : l < kk) (h4 : 0 ≤ c) (h5 : c < k) : 0 ≤ (q * kk + l) * k + c ∧ (q * kk + l) * k + c < ll * kk * k := by
 have a0 : 0 ≤ q * kk := Int.mul_nonneg h0 (by omega)
 have a1 : 0 ≤ (q * kk + l) * k := Int.mul_nonneg (by omega) (by omega)
 have a2 : (q + 1) * kk ≤ ll * kk := Int.mul_le_mul_of_nonneg_right (by omega) (by omega)
 rw [Int.add_mul, Int.one_mul] at a2
 have a3 : (q * kk + l + 1) * k ≤ ll * kk * k := Int.mul_le_mul_of_nonneg_right (by omega) (by omega)
 rw [Int.add_mul, Int.one_mul] at a3
 omega
def outV (l : List S29) : S29 := (hullL l).getD z29
theorem outV_snoc_none {l : List S29} {y : S29} (h : hullL l = none) : hullL (l ++ [y]) = some y := by rw [hullL_snoc, h]; rfl
theorem outV_snoc_some {l : List S29} {y z : S29} (h : hullL l = some z) : hullL (l ++ [y]) = some (hullB z y) := by rw [hullL_snoc, h]; rfl
theorem hull_any (a c : S29) (w : World) : Calls Try.prog 114 #[.agg #[.int .i64 a.f0.f0, .int .i64 a.f0.f1, .int .i64 a.f1.f0, .int .i64 a.f1.f1], .agg #[.int .i64 c.f0.f0, .int .i64 c.f0.f1, .int .i64 c.f1.f0, .int .i64 c.f1.f1]] w
  (RetB (.agg #[.int .i64 (hullB a c).f0.f0, .int .i64 (hullB a c).f0.f1, .int .i64 (hullB a c).f1.f0, .int .i64 (hullB a c).f1.f1]) w) :=
 glider_hull.calls _ _ _ _ _ _ _ _ _ _ _ _ w (by unfold glider_hull.f hullB; simp only [mn_min', mx_max'])
set_option maxRecDepth 100000 in
set_option maxHeartbeats 8000000 in
theorem at_any (b : Nat) (s : Sea) (v : Veh) (x : S29) (layer t u : Int) (w : World) (hT : TripAt w b s v) (hS : SeaN s) (hx : InSea s x) (hcu : (s.currents.length : Int) = s.slots * s.layers * (s.nx * s.ny)) (hl0 : 0 ≤ layer) (hl1 : layer < s.layers) (ht0 : 0 ≤ t) (ht1 : t < u) (ht2 : u ≤ s.slots * s.slot) :
  Calls Try.prog 54 #[.pointer (some ⟨b, 0, none⟩), .agg #[.int .i64 x.f0.f0, .int .i64 x.f0.f1, .int .i64 x.f1.f0, .int .i64 x.f1.f1], .int .i64 layer, .int .i64 t, .int .i64 u] w (RetB (.agg #[.int .i64 (atI s x layer t u).f0.f0, .int .i64 (atI s x layer t u).f0.f1, .int .i64 (atI s x layer t u).f1.f0, .int .i64 (atI s x layer t u).f1.f1]) w) := by
 have hu29 := Try.underlying29
 have hxy := mul_in (show 0 ≤ s.nx by have := hS.nx; omega) hS.nx.2 (show 0 ≤ s.ny by have := hS.ny; omega) hS.ny.2
 have hss := mul_in (show 0 ≤ s.slots by have := hS.slots; omega) hS.slots.2 (show 0 ≤ s.slot by have := hS.slot; omega) hS.slot.2
 have hsl := hS.slot
 have hso := hS.slots
 have hla := hS.layers
 have hcl : s.currents.length ≤ 10000 := by
  have h1 := mul_in (show 0 ≤ s.slots by omega) hso.2 (show 0 ≤ s.layers by omega) hla.2
  have h2 := mul_in h1.1 h1.2 hxy.1 hxy.2
  omega
 have HCU := Lib.hid hcu
 clear hcu
 have hj0 := div_in ht0 (show 1 ≤ s.slot by omega)
 have hj1 := div_in (show 0 ≤ u - 1 by omega) (show 1 ≤ s.slot by omega)
 have hj2 : (u - 1) / s.slot < s.slots := by
  refine Int.ediv_lt_of_lt_mul (by omega) ?_
  omega
 have e0 : Int.tdiv t s.slot = t / s.slot := Int.tdiv_eq_ediv_of_nonneg ht0
 have e1 : Int.tdiv (u - 1) s.slot = (u - 1) / s.slot := Int.tdiv_eq_ediv_of_nonneg (by omega)
 have hne : s.slot ≠ 0 := by omega
 have hbq : (s.slot == 0) = false := beq_eq_false_iff_ne.2 hne
 have HR : Hid (atI s x layer t u = (hullL (boxesL s x layer (t / s.slot) ((u - 1) / s.slot + 1 - t / s.slot).toNat)).getD z29) := Lib.hid rfl
 generalize t / s.slot = j0 at *
 generalize (u - 1) / s.slot = j1 at *
 have hT0 := hT
 obtain ⟨A7, c7, A8, c8, mT, _⟩ := hT0
 refine (callsIn_wide (n := 6)).1 ?_
 refine callsIn_of_wp_marks Try.func54 rfl trivial ?_ rfl
 simp only [Try.ntmps54, List.size_toArray, List.length_cons, List.length_nil, Nat.reduceAdd, Nat.reduceSub, Array.replicate_succ, Array.replicate_zero, List.push_toArray, List.append_toArray, List.nil_append, List.cons_append]
 gi_wp2_with fail
 have hl_T := blk_lt mT
 have m5 : Blk (((w.alloc (.cells #[.pointer (some ⟨b, 0, none⟩)] 118)).alloc (.cells #[.int .i64 x.f0.f0, .int .i64 x.f0.f1, .int .i64 x.f1.f0, .int .i64 x.f1.f1] 29)).alloc (.cells #[.int .i64 0, .int .i64 0, .int .i64 0, .int .i64 0] 29)) (w.heap.size) #[.pointer (some ⟨b, 0, none⟩)] 118 := (blk_alloc (blk_alloc zq25 _) _)
 have m6 : Blk (((w.alloc (.cells #[.pointer (some ⟨b, 0, none⟩)] 118)).alloc (.cells #[.int .i64 x.f0.f0, .int .i64 x.f0.f1, .int .i64 x.f1.f0, .int .i64 x.f1.f1] 29)).alloc (.cells #[.int .i64 0, .int .i64 0, .int .i64 0, .int .i64 0] 29)) (w.heap.size + 1) #[.int .i64 x.f0.f0, .int .i64 x.f0.f1, .int .i64 x.f1.f0, .int .i64 x.f1.f1] 29 := (blk_alloc zq26 _)
 have m10 : Blk (((w.alloc (.cells #[.pointer (some ⟨b, 0, none⟩)] 118)).alloc (.cells #[.int .i64 x.f0.f0, .int .i64 x.f0.f1, .int .i64 x.f1.f0, .int .i64 x.f1.f1] 29)).alloc (.cells #[.int .i64 0, .int .i64 0, .int .i64 0, .int .i64 0] 29)) (w.heap.size + 1 + 1) #[.int .i64 0, .int .i64 0, .int .i64 0, .int .i64 0] 29 := (by have h_ := blk_new ((w.alloc (.cells #[.pointer (some ⟨b, 0, none⟩)] 118)).alloc (.cells #[.int .i64 x.f0.f0, .int .i64 x.f0.f1, .int .i64 x.f1.f0, .int .i64 x.f1.f1] 29)) (.cells #[.int .i64 0, .int .i64 0, .int .i64 0, .int .i64 0] 29); first | exact h_ | (simp only [World.size_alloc] at h_; exact h_))
 replace mT : Blk (((w.alloc (.cells #[.pointer (some ⟨b, 0, none⟩)] 118)).alloc (.cells #[.int .i64 x.f0.f0, .int .i64 x.f0.f1, .int .i64 x.f1.f0, .int .i64 x.f1.f1] 29)).alloc (.cells #[.int .i64 0, .int .i64 0, .int .i64 0, .int .i64 0] 29)) b #[.int .i64 s.nx, .int .i64 s.ny, .int .i64 s.cell, .int .i64 s.slot, .int .i64 s.slots, .int .i64 s.layers, .int .i64 s.most, .slice A7 s.shores.length c7, .slice A8 s.currents.length c8, .int .i64 v.speed, .int .i64 v.dive, .int .i64 v.use.f0, .int .i64 v.use.f1, .int .i64 v.drift.f0, .int .i64 v.drift.f1, .int .i64 v.reserve] 120 := (blk_alloc (blk_alloc (blk_alloc mT _) _) _)
 have mB : Below w.heap.size w (((w.alloc (.cells #[.pointer (some ⟨b, 0, none⟩)] 118)).alloc (.cells #[.int .i64 x.f0.f0, .int .i64 x.f0.f1, .int .i64 x.f1.f0, .int .i64 x.f1.f1] 29)).alloc (.cells #[.int .i64 0, .int .i64 0, .int .i64 0, .int .i64 0] 29)) := (below_alloc (below_alloc (below_alloc (Below.refl w.heap.size w) _) _) _)
 have hsz_ : w.heap.size ≤ w.heap.size := Nat.le_refl _
 generalize hW_ : (((w.alloc (.cells #[.pointer (some ⟨b, 0, none⟩)] 118)).alloc (.cells #[.int .i64 x.f0.f0, .int .i64 x.f0.f1, .int .i64 x.f1.f0, .int .i64 x.f1.f1] 29)).alloc (.cells #[.int .i64 0, .int .i64 0, .int .i64 0, .int .i64 0] 29)) = W1 at mT m5 m6 m10 mB ⊢
 clear hW_
 generalize hg5 : w.heap.size = g5 at m5 m6 m10 ⊢
 have hn_T_5 : b ≠ g5 := by omega
 have hn_5_T : g5 ≠ b := hn_T_5.symm
 have hG5 : w.heap.size ≤ g5 := by omega
 generalize hg6 : g5 + 1 = g6 at m6 m10 ⊢
 have hn_T_6 : b ≠ g6 := by omega
 have hn_5_6 : g5 ≠ g6 := by omega
 have hn_6_T : g6 ≠ b := hn_T_6.symm
 have hn_6_5 : g6 ≠ g5 := hn_5_6.symm
 have hG6 : w.heap.size ≤ g6 := by omega
 generalize hg10 : g6 + 1 = g10 at m10 ⊢
 have hn_T_10 : b ≠ g10 := by omega
 have hn_5_10 : g5 ≠ g10 := by omega
 have hn_6_10 : g6 ≠ g10 := by omega
 have hn_10_T : g10 ≠ b := hn_T_10.symm
 have hn_10_5 : g10 ≠ g5 := hn_5_10.symm
 have hn_10_6 : g10 ≠ g6 := hn_6_10.symm
 have hG10 : w.heap.size ≤ g10 := by omega
 clear hsz_ hl_T
 try clear hg10
 try clear hg6
 try clear hg5
 have hs_W1 : w.heap.size ≤ W1.heap.size := mB.size
 refine wpIn_only (wpIn_wide.2 ?_)
 replace mT := blk_drew mT
 replace m5 := blk_drew m5
 replace m6 := blk_drew m6
 replace m10 := blk_drew m10
 replace mB := below_drew1 mB
 have wq : wrap64 (s.nx * s.ny) = s.nx * s.ny := by unfold wrap64; omega
 refine start_ (n := 12) (S := fun w' => w'.cell? ⟨g5, 0, none⟩ = some (.pointer (some ⟨b, 0, none⟩)) ∧ w'.cell? ⟨b, 0, none⟩ = some (.int .i64 s.nx) ∧ w'.cell? ⟨b, 1, none⟩ = some (.int .i64 s.ny)) (ds := []) #[false, false, false, false, false, false, false, false, false, false, false, false] zq3 rfl rfl ⟨((blk_cell m5 0).trans rfl), ((blk_cell mT 0).trans rfl), ((blk_cell mT 1).trans rfl)⟩ (fun hHeld => ?_)
 generalize hWd : World.drew _ = Wx at mB mT m5 m6 m10 hHeld ⊢
 clear hWd
 refine ztz (i := 0) (N := some 17) zq3 hHeld ?_
 refine zpz (i := 1) (N := some 18) zq3 ?_
 refine zpz (i := 2) (N := some 19) zq3 ?_
 refine zpz (i := 3) (N := some 20) zq3 ?_
 refine ztz (i := 4) (N := some 21) zq3 hHeld ?_
 refine ztz (i := 5) (N := some 22) zq3 hHeld ?_
 refine zpz (i := 6) (N := some 23) zq3 ?_
 refine zpz (i := 7) (N := some 24) zq3 ?_
 refine zpz (i := 8) (N := some 25) zq3 ?_
 refine ztz (i := 9) (N := some 26) zq3 hHeld ?_
 refine zpz (i := 10) (N := some 27) zq3 ?_
 refine zpz (i := 11) (N := some 11) zq3 ?_
 refine done_ zq3 ?_
 clear wq hHeld
 refine onlyN_normal ?_
 have c5_0 := (blk_cell m5 0).trans rfl
 have cT3 := (blk_cell mT 3).trans rfl
 have cq : ∀ o_, (Wx.alloc o_).cell? ⟨g5, 0, none⟩ = some (.pointer (some ⟨b, 0, none⟩)) := fun o_ => (blk_cell (blk_alloc m5 o_) 0).trans rfl
 have cq3 : ∀ o_, (Wx.alloc o_).cell? ⟨b, 3, none⟩ = some (.int .i64 s.slot) := fun o_ => (blk_cell (blk_alloc mT o_) 3).trans rfl
 gi_wp2_with fail
 clear cq cq3 c5_0 cT3
 have hs_Wx : w.heap.size ≤ Wx.heap.size := mB.size
 have hl_T := blk_lt mT
 have hl_5 := blk_lt m5
 have hl_6 := blk_lt m6
 have hl_10 := blk_lt m10
 have m12 : Blk (Wx.alloc (.cells #[.bool true] 4)) (Wx.heap.size) #[.bool true] 4 := (by have h_ := blk_new Wx (.cells #[.bool true] 4); first | exact h_ | (simp only [World.size_alloc] at h_; exact h_))
 replace mT : Blk (Wx.alloc (.cells #[.bool true] 4)) b #[.int .i64 s.nx, .int .i64 s.ny, .int .i64 s.cell, .int .i64 s.slot, .int .i64 s.slots, .int .i64 s.layers, .int .i64 s.most, .slice A7 s.shores.length c7, .slice A8 s.currents.length c8, .int .i64 v.speed, .int .i64 v.dive, .int .i64 v.use.f0, .int .i64 v.use.f1, .int .i64 v.drift.f0, .int .i64 v.drift.f1, .int .i64 v.reserve] 120 := (blk_alloc mT _)
 replace m5 : Blk (Wx.alloc (.cells #[.bool true] 4)) g5 #[.pointer (some ⟨b, 0, none⟩)] 118 := (blk_alloc m5 _)
 replace m6 : Blk (Wx.alloc (.cells #[.bool true] 4)) g6 #[.int .i64 x.f0.f0, .int .i64 x.f0.f1, .int .i64 x.f1.f0, .int .i64 x.f1.f1] 29 := (blk_alloc m6 _)
 replace m10 : Blk (Wx.alloc (.cells #[.bool true] 4)) g10 #[.int .i64 0, .int .i64 0, .int .i64 0, .int .i64 0] 29 := (blk_alloc m10 _)
 replace mB : Below w.heap.size w (Wx.alloc (.cells #[.bool true] 4)) := (below_alloc mB _)
 have hsz_ : w.heap.size ≤ Wx.heap.size := hs_Wx
 generalize hW_ : (Wx.alloc (.cells #[.bool true] 4)) = W2 at mT m5 m6 m10 m12 mB ⊢
 clear hW_
 generalize hg12 : Wx.heap.size = g12 at m12 ⊢
 have hn_T_12 : b ≠ g12 := by omega
 have hn_5_12 : g5 ≠ g12 := by omega
 have hn_6_12 : g6 ≠ g12 := by omega
 have hn_10_12 : g10 ≠ g12 := by omega
 have hn_12_T : g12 ≠ b := hn_T_12.symm
 have hn_12_5 : g12 ≠ g5 := hn_5_12.symm
 have hn_12_6 : g12 ≠ g6 := hn_6_12.symm
 have hn_12_10 : g12 ≠ g10 := hn_10_12.symm
 have hG12 : w.heap.size ≤ g12 := by omega
 clear hsz_ hl_T hl_5 hl_6 hl_10
 try clear hg12
 have hs_W2 : w.heap.size ≤ W2.heap.size := mB.size
 refine wpIn_loop (fun a W => ∃ (q : Nat) (j : Int) (Ds : List Nat) (u_ : Nat → Value), a = { tmps := #[(u_ 0), (u_ 1), .int .i64 layer, (u_ 3), .int .i64 u, .pointer (some ⟨g5, 0, none⟩), .pointer (some ⟨g6, 0, none⟩), (u_ 7), (u_ 8), (u_ 9), .pointer (some ⟨g10, 0, none⟩), .int .i64 (s.nx * s.ny), .pointer (some ⟨g12, 0, none⟩), .int .i64 j, (u_ 14), (u_ 15), (u_ 16), (u_ 17), (u_ 18), (u_ 19), (u_ 20), (u_ 21), (u_ 22), (u_ 23), (u_ 24), (u_ 25), (u_ 26), (u_ 27), (u_ 28), (u_ 29), (u_ 30), (u_ 31), (u_ 32), (u_ 33), (u_ 34), (u_ 35), (u_ 36), (u_ 37), (u_ 38), (u_ 39), (u_ 40), (u_ 41), (u_ 42), (u_ 43), (u_ 44), (u_ 45), (u_ 46), (u_ 47), (u_ 48), (u_ 49), (u_ 50), (u_ 51), (u_ 52), (u_ 53), (u_ 54), (u_ 55), (u_ 56), (u_ 57), (u_ 58), (u_ 59), (u_ 60), (u_ 61), (u_ 62), (u_ 63), (u_ 64), (u_ 65), (u_ 66), (u_ 67), (u_ 68), (u_ 69), (u_ 70), (u_ 71), (u_ 72), (u_ 73), (u_ 74), (u_ 75), (u_ 76), (u_ 77), (u_ 78), (u_ 79), (u_ 80), (u_ 81), (u_ 82), (u_ 83), (u_ 84), (u_ 85), (u_ 86), (u_ 87), (u_ 88), (u_ 89), (u_ 90), (u_ 91)], defers := Ds.map mark } ∧ Hid (j = j0 + (q : Int)) ∧ q ≤ (j1 + 1 - j0).toNat ∧ Marks W w.heap.size Ds ∧ Blk W g5 #[.pointer (some ⟨b, 0, none⟩)] 118 ∧ Blk W g6 #[.int .i64 x.f0.f0, .int .i64 x.f0.f1, .int .i64 x.f1.f0, .int .i64 x.f1.f1] 29 ∧ Blk W g10 #[.int .i64 (outV (boxesL s x layer j0 q)).f0.f0, .int .i64 (outV (boxesL s x layer j0 q)).f0.f1, .int .i64 (outV (boxesL s x layer j0 q)).f1.f0, .int .i64 (outV (boxesL s x layer j0 q)).f1.f1] 29 ∧ Blk W g12 #[.bool (hullL (boxesL s x layer j0 q)).isNone] 4 ∧ Below w.heap.size w W) (fun a _ => (j1 + 1 - intOf (a.tmps.getD 13 undef)).toNat) ⟨0, j0, [], (fun k => (#[.pointer (some ⟨b, 0, none⟩), .agg #[.int .i64 x.f0.f0, .int .i64 x.f0.f1, .int .i64 x.f1.f0, .int .i64 x.f1.f1], .int .i64 layer, .int .i64 t, .int .i64 u, .pointer (some ⟨g5, 0, none⟩), .pointer (some ⟨g6, 0, none⟩), undef, undef, undef, .pointer (some ⟨g10, 0, none⟩), .int .i64 (s.nx * s.ny), .pointer (some ⟨g12, 0, none⟩), .int .i64 j0, undef, undef, undef, .pointer (some ⟨b, 0, none⟩), .pointer (some ⟨b, 0, none⟩), .pointer (some ⟨b, 0, none⟩), .pointer (some ⟨b, 0, none⟩), .int .i64 s.nx, .pointer (some ⟨b, 0, none⟩), .pointer (some ⟨b, 0, none⟩), .pointer (some ⟨b, 0, none⟩), .pointer (some ⟨b, 1, none⟩), .int .i64 s.ny, .int .i64 (wrap64 (s.nx * s.ny)), .int .i64 t, .pointer (some ⟨b, 0, none⟩), .pointer (some ⟨b, 0, none⟩), .pointer (some ⟨b, 0, none⟩), .pointer (some ⟨b, 3, none⟩), .int .i64 s.slot, .int .i64 j0, undef, undef, undef, undef, undef, undef, undef, undef, undef, undef, undef, undef, undef, undef, undef, undef, undef, undef, undef, undef, undef, undef, undef, undef, undef, undef, undef, undef, undef, undef, undef, undef, undef, undef, undef, undef, undef, undef, undef, undef, undef, undef, undef, undef, undef, undef, undef, undef, undef, undef, undef, undef, undef, undef, undef, undef, undef] : Array Value).getD k undef), rfl, Lib.hid (by omega), Nat.zero_le _, Marks.nil _ _, m5, m6, m10, m12, mB⟩ ?_
 clear m5 m6 m10 m12 mB mT
 rintro a_ W ⟨q, j, Ds, u_, rfl, HJ, hq, hM, m5, m6, m10, m12, mB⟩
 have hs_W : w.heap.size ≤ W.heap.size := mB.size
 obtain ⟨A7, c7, A8, c8, mT, _, _, hc8, hC8⟩ := hT.below mB
 have cT3 := (blk_cell mT 3).trans rfl
 have cT5 := (blk_cell mT 5).trans rfl
 have c5_0 := (blk_cell m5 0).trans rfl
 have c6_0 : ∀ o_, (W.alloc o_).cell? ⟨g6, 0, none⟩ = some (.int .i64 x.f0.f0) := fun o_ => (blk_cell (blk_alloc m6 o_) 0).trans rfl
 have c6_1 : ∀ o_, (W.alloc o_).cell? ⟨g6, 1, none⟩ = some (.int .i64 x.f0.f1) := fun o_ => (blk_cell (blk_alloc m6 o_) 1).trans rfl
 have c6_2 : ∀ o_, (W.alloc o_).cell? ⟨g6, 2, none⟩ = some (.int .i64 x.f1.f0) := fun o_ => (blk_cell (blk_alloc m6 o_) 2).trans rfl
 have c6_3 : ∀ o_, (W.alloc o_).cell? ⟨g6, 3, none⟩ = some (.int .i64 x.f1.f1) := fun o_ => (blk_cell (blk_alloc m6 o_) 3).trans rfl
 have c5_1 : ∀ o_, (W.alloc o_).cell? ⟨g5, 0, none⟩ = some (.pointer (some ⟨b, 0, none⟩)) := fun o_ => (blk_cell (blk_alloc m5 o_) 0).trans rfl
 have hjj : j0 ≤ j := by have := HJ.out; omega
 by_cases hlt : j ≤ j1
 case neg =>
  have hqe : q = (j1 + 1 - j0).toNat := by have := HJ.out; omega
  have HQ := Lib.hid hqe
  clear hqe c5_1 c6_0 c6_1 c6_2 c6_3
  have HRR := HR.out
  rw [← HQ.out] at HRR
  have HR2 := Lib.hid HRR
  clear HRR
  generalize (boxesL s x layer j0 q) = L at *
  have c10_0 := (blk_cell m10 0).trans rfl
  have f10_0 := blk_frozen m10 0
  have c10_1 := (blk_cell m10 1).trans rfl
  have f10_1 := blk_frozen m10 1
  have c10_2 := (blk_cell m10 2).trans rfl
  have f10_2 := blk_frozen m10 2
  have c10_3 := (blk_cell m10 3).trans rfl
  have f10_3 := blk_frozen m10 3
  skip
  gi_wp2
  exact leaves_marks (fun X => Blk X g10 #[.int .i64 (outV L).f0.f0, .int .i64 (outV L).f0.f1, .int .i64 (outV L).f1.f0, .int .i64 (outV L).f1.f1] 29 ∧ Below w.heap.size w X) (fun X D_ h hB hD => ⟨(World.putObj_heap_other (fun e => by have h1 := h.1; unfold Blk at h1; rw [e, hD] at h1; cases h1)).trans h.1, h.2.trans (belowK_b (w := w) (Nat.le_refl _) X D_ _ _ hB hD rfl rfl)⟩) (fun X h => ⟨_, results_cell_row rfl _ _ g10 29 #[.int .i64 (outV L).f0.f0, .int .i64 (outV L).f0.f1, .int .i64 (outV L).f1.f0, .int .i64 (outV L).f1.f1] (0, 0) _ rfl h.1 Try.underlying29 rfl zq3, by rw [HR2.out]; rfl, h.2⟩) Ds _ (Marks.set (Marks.set (Marks.set (Marks.set hM m10 (i := 0) _) (blk_put m10 0 (.int .i64 (outV L).f0.f0) rfl) (i := 1) _) (blk_put (blk_put m10 0 (.int .i64 (outV L).f0.f0) rfl) 1 (.int .i64 (outV L).f0.f1) rfl) (i := 2) _) (blk_put (blk_put (blk_put m10 0 (.int .i64 (outV L).f0.f0) rfl) 1 (.int .i64 (outV L).f0.f1) rfl) 2 (.int .i64 (outV L).f1.f0) rfl) (i := 3) _) ⟨(blk_put (blk_put (blk_put (blk_put m10 0 (.int .i64 (outV L).f0.f0) rfl) 1 (.int .i64 (outV L).f0.f1) rfl) 2 (.int .i64 (outV L).f1.f0) rfl) 3 (.int .i64 (outV L).f1.f1) rfl), (Below.setCell (p := ⟨g10, 3, none⟩) (Below.setCell (p := ⟨g10, 2, none⟩) (Below.setCell (p := ⟨g10, 1, none⟩) (Below.setCell (p := ⟨g10, 0, none⟩) mB hG10 _) hG10 _) hG10 _) hG10 _)⟩
 case pos =>
  skip
  have hq2 : q + 1 ≤ (j1 + 1 - j0).toNat := by have := HJ.out; omega
  have HJ2 : Hid (j + 1 = j0 + ((q + 1 : Nat) : Int)) := Lib.hid (by have := HJ.out; omega)
  have p1 := mul_in (show 0 ≤ j by omega) (show j ≤ 15 by omega) (show 0 ≤ s.layers by omega) hla.2
  have p2 := mul_in (show 0 ≤ j * s.layers + layer by omega) (show j * s.layers + layer ≤ 50 by omega) hxy.1 hxy.2
  gi_wp2_with fail
  refine ⟨trivial, (callsIn_wide.2 (touched_any _ _ _)).mono ?_⟩
  rintro e W_ ⟨rfl, rfl⟩
  gi_wp2_with fail
  clear cT3 cT5 c5_0 c5_1 c6_0 c6_1 c6_2 c6_3
  have hnx_ := hS.nx
  have hM0 : Marks (((W.alloc (.cells #[.int .i64 ((j * s.layers + layer) * (s.nx * s.ny))] 3)).alloc (.cells #[.pointer (some ⟨b, 0, none⟩)] 118)).alloc (.cells #[.int .i64 x.f0.f0, .int .i64 x.f0.f1, .int .i64 x.f1.f0, .int .i64 x.f1.f1] 29)) w.heap.size Ds := hM.below (below_alloc (below_alloc (below_alloc (Below.refl _ W) _) _) _)
  have hl_T := blk_lt mT
  have hl_5 := blk_lt m5
  have hl_6 := blk_lt m6
  have hl_10 := blk_lt m10
  have hl_12 := blk_lt m12
  have m14 : Blk (((W.alloc (.cells #[.int .i64 ((j * s.layers + layer) * (s.nx * s.ny))] 3)).alloc (.cells #[.pointer (some ⟨b, 0, none⟩)] 118)).alloc (.cells #[.int .i64 x.f0.f0, .int .i64 x.f0.f1, .int .i64 x.f1.f0, .int .i64 x.f1.f1] 29)) (W.heap.size) #[.int .i64 ((j * s.layers + layer) * (s.nx * s.ny))] 3 := (blk_alloc (blk_alloc (by have h_ := blk_new W (.cells #[.int .i64 ((j * s.layers + layer) * (s.nx * s.ny))] 3); first | exact h_ | (simp only [World.size_alloc] at h_; exact h_)) _) _)
  have mP : Blk (((W.alloc (.cells #[.int .i64 ((j * s.layers + layer) * (s.nx * s.ny))] 3)).alloc (.cells #[.pointer (some ⟨b, 0, none⟩)] 118)).alloc (.cells #[.int .i64 x.f0.f0, .int .i64 x.f0.f1, .int .i64 x.f1.f0, .int .i64 x.f1.f1] 29)) (W.heap.size + 1) #[.pointer (some ⟨b, 0, none⟩)] 118 := (blk_alloc (by have h_ := blk_new (W.alloc (.cells #[.int .i64 ((j * s.layers + layer) * (s.nx * s.ny))] 3)) (.cells #[.pointer (some ⟨b, 0, none⟩)] 118); first | exact h_ | (simp only [World.size_alloc] at h_; exact h_)) _)
  have mX : Blk (((W.alloc (.cells #[.int .i64 ((j * s.layers + layer) * (s.nx * s.ny))] 3)).alloc (.cells #[.pointer (some ⟨b, 0, none⟩)] 118)).alloc (.cells #[.int .i64 x.f0.f0, .int .i64 x.f0.f1, .int .i64 x.f1.f0, .int .i64 x.f1.f1] 29)) (W.heap.size + 1 + 1) #[.int .i64 x.f0.f0, .int .i64 x.f0.f1, .int .i64 x.f1.f0, .int .i64 x.f1.f1] 29 := (by have h_ := blk_new ((W.alloc (.cells #[.int .i64 ((j * s.layers + layer) * (s.nx * s.ny))] 3)).alloc (.cells #[.pointer (some ⟨b, 0, none⟩)] 118)) (.cells #[.int .i64 x.f0.f0, .int .i64 x.f0.f1, .int .i64 x.f1.f0, .int .i64 x.f1.f1] 29); first | exact h_ | (simp only [World.size_alloc] at h_; exact h_))
  replace mT : Blk (((W.alloc (.cells #[.int .i64 ((j * s.layers + layer) * (s.nx * s.ny))] 3)).alloc (.cells #[.pointer (some ⟨b, 0, none⟩)] 118)).alloc (.cells #[.int .i64 x.f0.f0, .int .i64 x.f0.f1, .int .i64 x.f1.f0, .int .i64 x.f1.f1] 29)) b #[.int .i64 s.nx, .int .i64 s.ny, .int .i64 s.cell, .int .i64 s.slot, .int .i64 s.slots, .int .i64 s.layers, .int .i64 s.most, .slice A7 s.shores.length c7, .slice A8 s.currents.length c8, .int .i64 v.speed, .int .i64 v.dive, .int .i64 v.use.f0, .int .i64 v.use.f1, .int .i64 v.drift.f0, .int .i64 v.drift.f1, .int .i64 v.reserve] 120 := (blk_alloc (blk_alloc (blk_alloc mT _) _) _)
  replace m5 : Blk (((W.alloc (.cells #[.int .i64 ((j * s.layers + layer) * (s.nx * s.ny))] 3)).alloc (.cells #[.pointer (some ⟨b, 0, none⟩)] 118)).alloc (.cells #[.int .i64 x.f0.f0, .int .i64 x.f0.f1, .int .i64 x.f1.f0, .int .i64 x.f1.f1] 29)) g5 #[.pointer (some ⟨b, 0, none⟩)] 118 := (blk_alloc (blk_alloc (blk_alloc m5 _) _) _)
  replace m6 : Blk (((W.alloc (.cells #[.int .i64 ((j * s.layers + layer) * (s.nx * s.ny))] 3)).alloc (.cells #[.pointer (some ⟨b, 0, none⟩)] 118)).alloc (.cells #[.int .i64 x.f0.f0, .int .i64 x.f0.f1, .int .i64 x.f1.f0, .int .i64 x.f1.f1] 29)) g6 #[.int .i64 x.f0.f0, .int .i64 x.f0.f1, .int .i64 x.f1.f0, .int .i64 x.f1.f1] 29 := (blk_alloc (blk_alloc (blk_alloc m6 _) _) _)
  replace m10 : Blk (((W.alloc (.cells #[.int .i64 ((j * s.layers + layer) * (s.nx * s.ny))] 3)).alloc (.cells #[.pointer (some ⟨b, 0, none⟩)] 118)).alloc (.cells #[.int .i64 x.f0.f0, .int .i64 x.f0.f1, .int .i64 x.f1.f0, .int .i64 x.f1.f1] 29)) g10 #[.int .i64 (outV (boxesL s x layer j0 q)).f0.f0, .int .i64 (outV (boxesL s x layer j0 q)).f0.f1, .int .i64 (outV (boxesL s x layer j0 q)).f1.f0, .int .i64 (outV (boxesL s x layer j0 q)).f1.f1] 29 := (blk_alloc (blk_alloc (blk_alloc m10 _) _) _)
  replace m12 : Blk (((W.alloc (.cells #[.int .i64 ((j * s.layers + layer) * (s.nx * s.ny))] 3)).alloc (.cells #[.pointer (some ⟨b, 0, none⟩)] 118)).alloc (.cells #[.int .i64 x.f0.f0, .int .i64 x.f0.f1, .int .i64 x.f1.f0, .int .i64 x.f1.f1] 29)) g12 #[.bool (hullL (boxesL s x layer j0 q)).isNone] 4 := (blk_alloc (blk_alloc (blk_alloc m12 _) _) _)
  replace mB : Below w.heap.size w (((W.alloc (.cells #[.int .i64 ((j * s.layers + layer) * (s.nx * s.ny))] 3)).alloc (.cells #[.pointer (some ⟨b, 0, none⟩)] 118)).alloc (.cells #[.int .i64 x.f0.f0, .int .i64 x.f0.f1, .int .i64 x.f1.f0, .int .i64 x.f1.f1] 29)) := (below_alloc (below_alloc (below_alloc mB _) _) _)
  have hsz_ : w.heap.size ≤ W.heap.size := hs_W
  generalize hW_ : (((W.alloc (.cells #[.int .i64 ((j * s.layers + layer) * (s.nx * s.ny))] 3)).alloc (.cells #[.pointer (some ⟨b, 0, none⟩)] 118)).alloc (.cells #[.int .i64 x.f0.f0, .int .i64 x.f0.f1, .int .i64 x.f1.f0, .int .i64 x.f1.f1] 29)) = W0 at mT m5 m6 m10 m12 m14 mP mX mB hM0 ⊢
  clear hW_
  generalize hg14 : W.heap.size = g14 at m14 mP mX ⊢
  have hn_T_14 : b ≠ g14 := by omega
  have hn_5_14 : g5 ≠ g14 := by omega
  have hn_6_14 : g6 ≠ g14 := by omega
  have hn_10_14 : g10 ≠ g14 := by omega
  have hn_12_14 : g12 ≠ g14 := by omega
  have hn_14_T : g14 ≠ b := hn_T_14.symm
  have hn_14_5 : g14 ≠ g5 := hn_5_14.symm
  have hn_14_6 : g14 ≠ g6 := hn_6_14.symm
  have hn_14_10 : g14 ≠ g10 := hn_10_14.symm
  have hn_14_12 : g14 ≠ g12 := hn_12_14.symm
  have hG14 : w.heap.size ≤ g14 := by omega
  generalize hgP : g14 + 1 = gP at mP mX ⊢
  have hn_T_P : b ≠ gP := by omega
  have hn_5_P : g5 ≠ gP := by omega
  have hn_6_P : g6 ≠ gP := by omega
  have hn_10_P : g10 ≠ gP := by omega
  have hn_12_P : g12 ≠ gP := by omega
  have hn_14_P : g14 ≠ gP := by omega
  have hn_P_T : gP ≠ b := hn_T_P.symm
  have hn_P_5 : gP ≠ g5 := hn_5_P.symm
  have hn_P_6 : gP ≠ g6 := hn_6_P.symm
  have hn_P_10 : gP ≠ g10 := hn_10_P.symm
  have hn_P_12 : gP ≠ g12 := hn_12_P.symm
  have hn_P_14 : gP ≠ g14 := hn_14_P.symm
  have hGP : w.heap.size ≤ gP := by omega
  generalize hgX : gP + 1 = gX at mX ⊢
  have hn_T_X : b ≠ gX := by omega
  have hn_5_X : g5 ≠ gX := by omega
  have hn_6_X : g6 ≠ gX := by omega
  have hn_10_X : g10 ≠ gX := by omega
  have hn_12_X : g12 ≠ gX := by omega
  have hn_14_X : g14 ≠ gX := by omega
  have hn_P_X : gP ≠ gX := by omega
  have hn_X_T : gX ≠ b := hn_T_X.symm
  have hn_X_5 : gX ≠ g5 := hn_5_X.symm
  have hn_X_6 : gX ≠ g6 := hn_6_X.symm
  have hn_X_10 : gX ≠ g10 := hn_10_X.symm
  have hn_X_12 : gX ≠ g12 := hn_12_X.symm
  have hn_X_14 : gX ≠ g14 := hn_14_X.symm
  have hn_X_P : gX ≠ gP := hn_P_X.symm
  have hGX : w.heap.size ≤ gX := by omega
  clear hsz_ hl_T hl_5 hl_6 hl_10 hl_12
  try clear hgX
  try clear hgP
  try clear hg14
  have hs_W0 : w.heap.size ≤ W0.heap.size := mB.size
  have hDs : ∀ D_ ∈ Ds, D_ < W0.heap.size := fun D_ h => (Array.getElem?_eq_some_iff.1 (hM0.2 D_ h).2).1
  have HN : Hid (g5 ≠ g10 ∧ g5 ≠ g12 ∧ g6 ≠ g10 ∧ g6 ≠ g12 ∧ g14 ≠ g10 ∧ g14 ≠ g12 ∧ g10 ≠ g12 ∧ g12 ≠ g10 ∧ gP ≠ g10 ∧ gX ≠ g10 ∧ gP ≠ g12 ∧ gX ≠ g12) := Lib.hid ⟨hn_5_10, hn_5_12, hn_6_10, hn_6_12, hn_14_10, hn_14_12, hn_10_12, hn_12_10, hn_P_10, hn_X_10, hn_P_12, hn_X_12⟩
  try clear hn_T_5 hn_T_6 hn_T_10 hn_T_12 hn_T_14
  try clear hn_T_P
  try clear hn_T_X
  try clear hn_5_T
  try clear hn_5_6 hn_5_10 hn_5_12 hn_5_14
  try clear hn_5_P
  try clear hn_5_X
  try clear hn_6_T
  try clear hn_6_5 hn_6_10 hn_6_12 hn_6_14
  try clear hn_6_P
  try clear hn_6_X
  try clear hn_10_T
  try clear hn_10_5 hn_10_6 hn_10_12 hn_10_14
  try clear hn_10_P
  try clear hn_10_X
  try clear hn_12_T
  try clear hn_12_5 hn_12_6 hn_12_10 hn_12_14
  try clear hn_12_P
  try clear hn_12_X
  try clear hn_14_T
  try clear hn_14_5 hn_14_6 hn_14_10 hn_14_12
  try clear hn_14_P
  try clear hn_14_X
  try clear hn_P_T
  try clear hn_P_5 hn_P_6 hn_P_10 hn_P_12 hn_P_14
  try clear hn_P_X
  try clear hn_X_T
  try clear hn_X_5 hn_X_6 hn_X_10 hn_X_12 hn_X_14
  try clear hn_X_P
  refine wpIn_rangeFunc_ownH rfl (by omega) (gf := 156) (lb := #[.pointer (some ⟨gP, 0, none⟩), .pointer (some ⟨gX, 0, none⟩)]) rfl trivial (enters_of Try.func156 zq3 rfl)
   (encs := fun c : CellN s => #[.int .i64 c.1]) (Kp := KpT w gP gX b x) (S := AllT s x) (Sp := PreT s x) (N := (touchL s x).length) (w0 := W0)
   (fun l J Jx X_ hW hJ _ hY h0 => touched1_in 5 (by omega) l gP gX w b s v x hT hS hx (KpT w gP gX b x) (fun A B h hE => ⟨hE.1.trans h.1, h.2.1 hE.2.1, h.2.2 hE.2.2⟩) J Jx hY (fun f X Y h hB => hJ f X Y none h ⟨hB.os, hB.tape, hB.output, hB.size, fun k hk _ => hB.block k hk⟩ (fun r e => by cases e)) X_ ⟨below_step mB hW, Blk.belowH mP hW, Blk.belowH mX hW⟩ h0) KpT.trans (KpT.put hs_W0 (blk_lt mP) (blk_lt mX)) (Below.refl _ _) (fun _ => rfl)
   (fun pre W => Blk W g5 #[.pointer (some ⟨b, 0, none⟩)] 118 ∧ Blk W g6 #[.int .i64 x.f0.f0, .int .i64 x.f0.f1, .int .i64 x.f1.f0, .int .i64 x.f1.f1] 29 ∧ Blk W g14 #[.int .i64 ((j * s.layers + layer) * (s.nx * s.ny))] 3 ∧ Blk W g10 #[.int .i64 (outV (boxesL s x layer j0 q ++ (pre.map fun c => curB s layer j c.1))).f0.f0, .int .i64 (outV (boxesL s x layer j0 q ++ (pre.map fun c => curB s layer j c.1))).f0.f1, .int .i64 (outV (boxesL s x layer j0 q ++ (pre.map fun c => curB s layer j c.1))).f1.f0, .int .i64 (outV (boxesL s x layer j0 q ++ (pre.map fun c => curB s layer j c.1))).f1.f1] 29 ∧ Blk W g12 #[.bool (hullL (boxesL s x layer j0 q ++ (pre.map fun c => curB s layer j c.1))).isNone] 4 ∧ Marks W w.heap.size Ds ∧ Below w.heap.size w W)
   (fun c pre W => False)
   (OwnFrom.and (blk_ownFrom _ _ (fun _ => _) _) (OwnFrom.and (blk_ownFrom _ _ (fun _ => _) _) (OwnFrom.and (blk_ownFrom _ _ (fun _ => _) _) (OwnFrom.and (blk_ownFrom _ _ (fun pre : List (CellN s) => #[.int .i64 (outV (boxesL s x layer j0 q ++ (pre.map fun c => curB s layer j c.1))).f0.f0, .int .i64 (outV (boxesL s x layer j0 q ++ (pre.map fun c => curB s layer j c.1))).f0.f1, .int .i64 (outV (boxesL s x layer j0 q ++ (pre.map fun c => curB s layer j c.1))).f1.f0, .int .i64 (outV (boxesL s x layer j0 q ++ (pre.map fun c => curB s layer j c.1))).f1.f1]) _) (OwnFrom.and (blk_ownFrom _ _ (fun pre : List (CellN s) => #[.bool (hullL (boxesL s x layer j0 q ++ (pre.map fun c => curB s layer j c.1))).isNone]) _) (OwnFrom.and (marks_ownFrom _ _ Ds hDs) (ownFrom_below (by omega) (by omega))))))))
   (fun c pre X Y row hs hg hr => hs)
   ⟨m5, m6, m14, by rw [List.map_nil, List.append_nil]; exact m10, by rw [List.map_nil, List.append_nil]; exact m12, hM0, mB⟩
   (fun c a' W => ∃ u_ : Nat → Value, a' = { tmps := #[(u_ 0), (u_ 1), (u_ 2), (u_ 3), (u_ 4), .pointer (some ⟨g5, 0, none⟩), (u_ 6), (u_ 7), (u_ 8), (u_ 9), .pointer (some ⟨g10, 0, none⟩), (u_ 11), .pointer (some ⟨g12, 0, none⟩), (u_ 13), .pointer (some ⟨g14, 0, none⟩), .int .i64 c.1, (u_ 16), (u_ 17), (u_ 18), (u_ 19), (u_ 20), (u_ 21), (u_ 22), (u_ 23), (u_ 24), (u_ 25), (u_ 26), (u_ 27), (u_ 28), (u_ 29), (u_ 30), (u_ 31), (u_ 32), (u_ 33), (u_ 34), (u_ 35), (u_ 36), (u_ 37), (u_ 38), (u_ 39), (u_ 40), (u_ 41), (u_ 42), (u_ 43), (u_ 44), (u_ 45), (u_ 46), (u_ 47), (u_ 48), (u_ 49), (u_ 50), (u_ 51), (u_ 52), (u_ 53), (u_ 54), (u_ 55), (u_ 56), (u_ 57), (u_ 58), (u_ 59), (u_ 60), (u_ 61), (u_ 62), (u_ 63), (u_ 64), (u_ 65), (u_ 66), (u_ 67), (u_ 68), (u_ 69), (u_ 70), (u_ 71), (u_ 72), (u_ 73), (u_ 74), (u_ 75), (u_ 76), (u_ 77), (u_ 78), (u_ 79), (u_ 80), (u_ 81), (u_ 82), (u_ 83), (u_ 84), (u_ 85), (u_ 86), (u_ 87), (u_ 88), (u_ 89), (u_ 90), (u_ 91)], defers := [] })
   (fun c a' s X Y row hs hg hr => hs) ?assign ?body ?done ?stop
  case assign =>
   rintro l pre c X_ K hI hK
   gi_wp2
   exact hK _ _ ((KeepsOthers.refl X_).from _) (KpT.below hI.2.2.2.2.2.2.size (Below.refl _ _)) hI ⟨(fun k => (#[(u_ 0), (u_ 1), .int .i64 layer, (u_ 3), .int .i64 u, .pointer (some ⟨g5, 0, none⟩), .pointer (some ⟨g6, 0, none⟩), (u_ 7), (u_ 8), (u_ 9), .pointer (some ⟨g10, 0, none⟩), .int .i64 (s.nx * s.ny), .pointer (some ⟨g12, 0, none⟩), .int .i64 j, .pointer (some ⟨g14, 0, none⟩), .int .i64 c.1, (u_ 16), (u_ 17), (u_ 18), (u_ 19), (u_ 20), (u_ 21), (u_ 22), (u_ 23), (u_ 24), (u_ 25), (u_ 26), (u_ 27), (u_ 28), (u_ 29), (u_ 30), (u_ 31), (u_ 32), (u_ 33), (u_ 34), .int .i64 j, .int .i64 u, .int .i64 (u - 1), .pointer (some ⟨b, 0, none⟩), .pointer (some ⟨b, 0, none⟩), .pointer (some ⟨b, 0, none⟩), .pointer (some ⟨b, 3, none⟩), .int .i64 s.slot, .int .i64 j1, .bool true, (u_ 45), (u_ 46), .int .i64 j, .pointer (some ⟨b, 0, none⟩), .pointer (some ⟨b, 0, none⟩), .pointer (some ⟨b, 0, none⟩), .pointer (some ⟨b, 5, none⟩), .int .i64 s.layers, .int .i64 (j * s.layers), .int .i64 layer, .int .i64 (j * s.layers + layer), .int .i64 (s.nx * s.ny), .int .i64 ((j * s.layers + layer) * (s.nx * s.ny)), .pointer (some ⟨b, 0, none⟩), .agg #[.int .i64 x.f0.f0, .int .i64 x.f0.f1, .int .i64 x.f1.f0, .int .i64 x.f1.f1], .func (.func 156) #[] #[.pointer (some ⟨gP, 0, none⟩), .pointer (some ⟨gX, 0, none⟩)], .int .i64 c.1, (u_ 62), (u_ 63), (u_ 64), (u_ 65), (u_ 66), (u_ 67), (u_ 68), (u_ 69), (u_ 70), (u_ 71), (u_ 72), (u_ 73), (u_ 74), (u_ 75), (u_ 76), (u_ 77), (u_ 78), (u_ 79), (u_ 80), (u_ 81), (u_ 82), (u_ 83), (u_ 84), (u_ 85), (u_ 86), (u_ 87), (u_ 88), (u_ 89), (u_ 90), (u_ 91)] : Array Value).getD k undef), rfl⟩
  case stop =>
   rintro D_ c pre X_ hD hp h hK
   exact h.elim
  case done =>
   rintro D_ xs X_ hD hxs ⟨m5, m6, m14, m10, m12, hM, mB⟩ hK
   have hL : boxesL s x layer j0 q ++ xs.map (fun c => curB s layer j c.1) = boxesL s x layer j0 (q + 1) := by rw [boxesL_succ]; unfold slotL; rw [← (show xs.map Subtype.val = touchL s x from hxs), List.map_map, ← HJ.out]; rfl
   rw [hL] at m10 m12
   clear hL
   have hM2 := hM.cons (fun h => absurd (hDs D_ h) (Nat.not_lt.2 hD)) (Nat.le_trans hs_W0 hD) hK
   gi_wp2
   skip
   exact ⟨⟨q + 1, j + 1, D_ :: Ds, (fun k => (#[(u_ 0), (u_ 1), .int .i64 layer, (u_ 3), .int .i64 u, .pointer (some ⟨g5, 0, none⟩), .pointer (some ⟨g6, 0, none⟩), (u_ 7), (u_ 8), (u_ 9), .pointer (some ⟨g10, 0, none⟩), .int .i64 (s.nx * s.ny), .pointer (some ⟨g12, 0, none⟩), .int .i64 (j + 1), .pointer (some ⟨g14, 0, none⟩), (u_ 15), (u_ 16), (u_ 17), (u_ 18), (u_ 19), (u_ 20), (u_ 21), (u_ 22), (u_ 23), (u_ 24), (u_ 25), (u_ 26), (u_ 27), (u_ 28), (u_ 29), (u_ 30), (u_ 31), (u_ 32), (u_ 33), (u_ 34), .int .i64 j, .int .i64 u, .int .i64 (u - 1), .pointer (some ⟨b, 0, none⟩), .pointer (some ⟨b, 0, none⟩), .pointer (some ⟨b, 0, none⟩), .pointer (some ⟨b, 3, none⟩), .int .i64 s.slot, .int .i64 j1, .bool true, .int .i64 j, .int .i64 (j + 1), .int .i64 j, .pointer (some ⟨b, 0, none⟩), .pointer (some ⟨b, 0, none⟩), .pointer (some ⟨b, 0, none⟩), .pointer (some ⟨b, 5, none⟩), .int .i64 s.layers, .int .i64 (j * s.layers), .int .i64 layer, .int .i64 (j * s.layers + layer), .int .i64 (s.nx * s.ny), .int .i64 ((j * s.layers + layer) * (s.nx * s.ny)), .pointer (some ⟨b, 0, none⟩), .agg #[.int .i64 x.f0.f0, .int .i64 x.f0.f1, .int .i64 x.f1.f0, .int .i64 x.f1.f1], .func (.func 156) #[] #[.pointer (some ⟨gP, 0, none⟩), .pointer (some ⟨gX, 0, none⟩)], (u_ 61), (u_ 62), (u_ 63), (u_ 64), (u_ 65), (u_ 66), (u_ 67), (u_ 68), (u_ 69), (u_ 70), (u_ 71), (u_ 72), (u_ 73), (u_ 74), (u_ 75), (u_ 76), (u_ 77), (u_ 78), (u_ 79), (u_ 80), (u_ 81), (u_ 82), (u_ 83), (u_ 84), (u_ 85), (u_ 86), (u_ 87), (u_ 88), (u_ 89), (u_ 90), (u_ 91)] : Array Value).getD k undef), rfl, HJ2, hq2, hM2, m5, m6, m10, m12, mB⟩, by simp [intOf]; omega⟩
  case body =>
   skip
   rintro l pre c a_ X_ hlW ⟨r, hr⟩ ⟨m5, m6, m14, m10, m12, hM, mB⟩ ⟨u_, rfl⟩ hlen
   have hXs : W0.heap.size ≤ X_.heap.size := Nat.le_trans hlW (Nat.le_of_lt (blk_lt hr))
   clear hr
   have hN : Below X_.heap.size X_ X_ := Below.refl _ _
   obtain ⟨A7, c7, A8, c8, mT, _, _, hc8, hC8⟩ := hT.below mB
   have hidx := index_in (q := j) (l := layer) (k := s.nx * s.ny) (c := c.1) (ll := s.slots) (kk := s.layers) (by omega) (by omega) hl0 hl1 c.2.1 c.2.2
   rw [← HCU.out] at hidx
   have HY : Hid (curB s layer j c.1 = ⟨(rd_T33 s.currents ((j * s.layers + layer) * (s.nx * s.ny) + c.1)).f0, (rd_T33 s.currents ((j * s.layers + layer) * (s.nx * s.ny) + c.1)).f1⟩) := Lib.hid rfl
   obtain ⟨hi0, hi1⟩ := hidx
   obtain ⟨ad, e_, hy0, hy1, hy2, hy3⟩ := at_T33 hC8 _ hi0 hi1
   cases e_
   clear hC8
   generalize rd_T33 s.currents ((j * s.layers + layer) * (s.nx * s.ny) + c.1) = y at *
   generalize (j * s.layers + layer) * (s.nx * s.ny) = R at *
   have wR : wrap64 (R + c.1) = R + c.1 := by unfold wrap64; have := c.2; omega
   have hm0 : hullL (boxesL s x layer j0 q ++ (pre.map fun c => curB s layer j c.1)) = hullL (boxesL s x layer j0 q ++ (pre.map fun c => curB s layer j c.1)) := rfl
   generalize hLL_ : (boxesL s x layer j0 q ++ (pre.map fun c => curB s layer j c.1)) = L at *
   have hLL := Lib.hid hLL_
   clear hm0 hLL_
   gi_wp2_with fail
   replace mT := blk_drew mT
   replace m5 := blk_drew m5
   replace m6 := blk_drew m6
   replace m10 := blk_drew m10
   replace m12 := blk_drew m12
   replace m14 := blk_drew m14
   replace mB := below_drew1 mB
   replace hy0 := ((below_drew1 (Below.refl X_.heap.size X_)).cell (World.block_lt_of_cell? X_ _ hy0)).trans hy0
   replace hy1 := ((below_drew1 (Below.refl X_.heap.size X_)).cell (World.block_lt_of_cell? X_ _ hy1)).trans hy1
   replace hy2 := ((below_drew1 (Below.refl X_.heap.size X_)).cell (World.block_lt_of_cell? X_ _ hy2)).trans hy2
   replace hy3 := ((below_drew1 (Below.refl X_.heap.size X_)).cell (World.block_lt_of_cell? X_ _ hy3)).trans hy3
   replace hM := hM.below (below_drew1 (Below.refl _ X_))
   replace hN := below_drew1 hN
   refine startIn_ (m := 25) (S := fun w' => w'.cell? ⟨g5, 0, none⟩ = some (.pointer (some ⟨b, 0, none⟩)) ∧ w'.cell? ⟨g14, 0, none⟩ = some (.int .i64 R) ∧ w'.cell? ⟨b, 8, none⟩ = some (.slice (some ad) s.currents.length c8) ∧ w'.cell? (ad.add ((R + c.1).toNat * 4)) = some (.int .i64 y.f0.f0) ∧ w'.cell? ⟨(ad.add ((R + c.1).toNat * 4)).block, (ad.add ((R + c.1).toNat * 4)).off + 1, none⟩ = some (.int .i64 y.f0.f1) ∧ w'.cell? ⟨(ad.add ((R + c.1).toNat * 4)).block, (ad.add ((R + c.1).toNat * 4)).off + 2, none⟩ = some (.int .i64 y.f1.f0) ∧ w'.cell? ⟨(ad.add ((R + c.1).toNat * 4)).block, (ad.add ((R + c.1).toNat * 4)).off + 3, none⟩ = some (.int .i64 y.f1.f1)) (ds := [24]) #[false, false, false, false, false, false, false, false, false, false, false, false, false, false, false, false, false, false, false, false, false, false, false, false, false] zq3 (letsOut_then (letsOut_inBlock letsOut_ownG)) zq3 rfl rfl ⟨((blk_cell m5 0).trans rfl), ((blk_cell m14 0).trans rfl), ((blk_cell mT 8).trans rfl), hy0, hy1, hy2, hy3⟩ (fun hHeld => ?_)
   generalize hWd : World.drew _ = Wx at mB mT m5 m6 m10 m12 m14 hM hN hy0 hy1 hy2 hy3 hHeld ⊢
   clear hWd
   refine zpz (i := 6) (N := some 68) zq3 ?_
   refine zpz (i := 17) (N := some 79) zq3 ?_
   refine ztz (i := 0) (N := some 62) zq3 hHeld ?_
   refine zpz (i := 1) (N := some 63) zq3 ?_
   refine zpz (i := 2) (N := some 64) zq3 ?_
   refine zpz (i := 3) (N := some 65) zq3 ?_
   refine ztz (i := 4) (N := some 66) zq3 hHeld ?_
   refine ztz (i := 5) (N := some 67) zq3 hHeld ?_
   refine zpz (i := 7) (N := some 69) zq3 ?_
   refine zpz (i := 8) (N := some 70) zq3 ?_
   refine zpz (i := 9) (N := some 71) zq3 ?_
   refine ztz (i := 10) (N := some 72) zq3 hHeld ?_
   refine ztz (i := 11) (N := some 73) zq3 hHeld ?_
   refine zpz (i := 12) (N := some 74) zq3 ?_
   refine zpz (i := 13) (N := some 75) zq3 ?_
   refine zpz (i := 14) (N := some 76) zq3 ?_
   refine ztz (i := 15) (N := some 77) zq3 hHeld ?_
   refine ztz (i := 16) (N := some 78) zq3 hHeld ?_
   refine zpz (i := 18) (N := some 80) zq3 ?_
   refine zpz (i := 19) (N := some 81) zq3 ?_
   refine zpz (i := 20) (N := some 82) zq3 ?_
   refine ztz (i := 21) (N := some 83) zq3 hHeld ?_
   refine zpz (i := 22) (N := some 84) zq3 ?_
   refine one_ (i := 23) (N := some 16) #[true, true, true, true, true, true, true, true, true, true, true, true, true, true, true, true, true, true, true, true, true, true, true, true, false] rfl rfl zq3 (by decide) (fun K hK => ?_)
   refine value_ (w1 := ?_) (v := ?_) (by rfl) rfl ?_ ?_
   rotate_left 2
   ·go_simp
    constructor
    ·rfl
    ·rfl
   refine hK.out _ _ ⟨((blk_cell (blk_alloc m5 (.cells #[.int .i64 0, .int .i64 0, .int .i64 0, .int .i64 0] 29)) 0).trans rfl), ((blk_cell (blk_alloc m14 (.cells #[.int .i64 0, .int .i64 0, .int .i64 0, .int .i64 0] 29)) 0).trans rfl), ((blk_cell (blk_alloc mT (.cells #[.int .i64 0, .int .i64 0, .int .i64 0, .int .i64 0] 29)) 8).trans rfl), ((below_alloc (Below.refl Wx.heap.size Wx) (.cells #[.int .i64 0, .int .i64 0, .int .i64 0, .int .i64 0] 29)).cell (World.block_lt_of_cell? Wx _ hy0)).trans hy0, ((below_alloc (Below.refl Wx.heap.size Wx) (.cells #[.int .i64 0, .int .i64 0, .int .i64 0, .int .i64 0] 29)).cell (World.block_lt_of_cell? Wx _ hy1)).trans hy1, ((below_alloc (Below.refl Wx.heap.size Wx) (.cells #[.int .i64 0, .int .i64 0, .int .i64 0, .int .i64 0] 29)).cell (World.block_lt_of_cell? Wx _ hy2)).trans hy2, ((below_alloc (Below.refl Wx.heap.size Wx) (.cells #[.int .i64 0, .int .i64 0, .int .i64 0, .int .i64 0] 29)).cell (World.block_lt_of_cell? Wx _ hy3)).trans hy3⟩ (fun hHeld => ?_)
   clear hK K
   refine norm_ zq12 ?_
   refine last_ (i := 24) (N := none) #[true, true, true, true, true, true, true, true, true, true, true, true, true, true, true, true, true, true, true, true, true, true, true, true, true] rfl rfl zq3 (by decide) (fun K hK => ?_)
   have hq_ := blk_new Wx (.cells #[.int .i64 0, .int .i64 0, .int .i64 0, .int .i64 0] 29)
   have hf0_ := blk_frozen hq_ 0
   have hf1_ := blk_frozen hq_ 1
   have hf2_ := blk_frozen hq_ 2
   have hf3_ := blk_frozen hq_ 3
   have hc0_ := (blk_cell hq_ 0).trans rfl
   have hc1_ := (blk_cell hq_ 1).trans rfl
   have hc2_ := (blk_cell hq_ 2).trans rfl
   have hc3_ := (blk_cell hq_ 3).trans rfl
   refine skip_ (w1 := ?_) (by rfl) rfl ?_ ?_
   rotate_left
   ·go_simp
    rfl
   refine hK.out _ _ ?_
   clear hK K
   refine done_ zq3 ?_
   try clear hHeld
   skip
   clear hy0 hy1 hy2 hy3 wR
   have hs_Wx : w.heap.size ≤ Wx.heap.size := mB.size
   have hG16W : W0.heap.size ≤ Wx.heap.size := Nat.le_trans hXs hN.size
   replace hM := hM.below (below_alloc (Below.refl _ Wx) (.cells #[.int .i64 y.f0.f0, .int .i64 y.f0.f1, .int .i64 y.f1.f0, .int .i64 y.f1.f1] 29))
   replace hN := below_step hN (below_alloc (Below.refl _ Wx) (.cells #[.int .i64 y.f0.f0, .int .i64 y.f0.f1, .int .i64 y.f1.f0, .int .i64 y.f1.f1] 29))
   have hl_T := blk_lt mT
   have hl_5 := blk_lt m5
   have hl_6 := blk_lt m6
   have hl_10 := blk_lt m10
   have hl_12 := blk_lt m12
   have hl_14 := blk_lt m14
   have m16 : Blk (Wx.alloc (.cells #[.int .i64 y.f0.f0, .int .i64 y.f0.f1, .int .i64 y.f1.f0, .int .i64 y.f1.f1] 29)) (Wx.heap.size) #[.int .i64 y.f0.f0, .int .i64 y.f0.f1, .int .i64 y.f1.f0, .int .i64 y.f1.f1] 29 := (by have h_ := blk_new Wx (.cells #[.int .i64 y.f0.f0, .int .i64 y.f0.f1, .int .i64 y.f1.f0, .int .i64 y.f1.f1] 29); first | exact h_ | (simp only [World.size_alloc] at h_; exact h_))
   replace mT : Blk (Wx.alloc (.cells #[.int .i64 y.f0.f0, .int .i64 y.f0.f1, .int .i64 y.f1.f0, .int .i64 y.f1.f1] 29)) b #[.int .i64 s.nx, .int .i64 s.ny, .int .i64 s.cell, .int .i64 s.slot, .int .i64 s.slots, .int .i64 s.layers, .int .i64 s.most, .slice A7 s.shores.length c7, .slice (some ad) s.currents.length c8, .int .i64 v.speed, .int .i64 v.dive, .int .i64 v.use.f0, .int .i64 v.use.f1, .int .i64 v.drift.f0, .int .i64 v.drift.f1, .int .i64 v.reserve] 120 := (blk_alloc mT _)
   replace m5 : Blk (Wx.alloc (.cells #[.int .i64 y.f0.f0, .int .i64 y.f0.f1, .int .i64 y.f1.f0, .int .i64 y.f1.f1] 29)) g5 #[.pointer (some ⟨b, 0, none⟩)] 118 := (blk_alloc m5 _)
   replace m6 : Blk (Wx.alloc (.cells #[.int .i64 y.f0.f0, .int .i64 y.f0.f1, .int .i64 y.f1.f0, .int .i64 y.f1.f1] 29)) g6 #[.int .i64 x.f0.f0, .int .i64 x.f0.f1, .int .i64 x.f1.f0, .int .i64 x.f1.f1] 29 := (blk_alloc m6 _)
   replace m10 : Blk (Wx.alloc (.cells #[.int .i64 y.f0.f0, .int .i64 y.f0.f1, .int .i64 y.f1.f0, .int .i64 y.f1.f1] 29)) g10 #[.int .i64 (outV L).f0.f0, .int .i64 (outV L).f0.f1, .int .i64 (outV L).f1.f0, .int .i64 (outV L).f1.f1] 29 := (blk_alloc m10 _)
   replace m12 : Blk (Wx.alloc (.cells #[.int .i64 y.f0.f0, .int .i64 y.f0.f1, .int .i64 y.f1.f0, .int .i64 y.f1.f1] 29)) g12 #[.bool (hullL L).isNone] 4 := (blk_alloc m12 _)
   replace m14 : Blk (Wx.alloc (.cells #[.int .i64 y.f0.f0, .int .i64 y.f0.f1, .int .i64 y.f1.f0, .int .i64 y.f1.f1] 29)) g14 #[.int .i64 R] 3 := (blk_alloc m14 _)
   replace mB : Below w.heap.size w (Wx.alloc (.cells #[.int .i64 y.f0.f0, .int .i64 y.f0.f1, .int .i64 y.f1.f0, .int .i64 y.f1.f1] 29)) := (below_alloc mB _)
   have hsz_ : w.heap.size ≤ Wx.heap.size := hs_Wx
   generalize hW_ : (Wx.alloc (.cells #[.int .i64 y.f0.f0, .int .i64 y.f0.f1, .int .i64 y.f1.f0, .int .i64 y.f1.f1] 29)) = W3 at mT m5 m6 m10 m12 m14 m16 mB hM hN ⊢
   clear hW_
   generalize hg16 : Wx.heap.size = g16 at m16 hG16W ⊢
   have hn_T_16 : b ≠ g16 := by omega
   have hn_5_16 : g5 ≠ g16 := by omega
   have hn_6_16 : g6 ≠ g16 := by omega
   have hn_10_16 : g10 ≠ g16 := by omega
   have hn_12_16 : g12 ≠ g16 := by omega
   have hn_14_16 : g14 ≠ g16 := by omega
   have hn_16_T : g16 ≠ b := hn_T_16.symm
   have hn_16_5 : g16 ≠ g5 := hn_5_16.symm
   have hn_16_6 : g16 ≠ g6 := hn_6_16.symm
   have hn_16_10 : g16 ≠ g10 := hn_10_16.symm
   have hn_16_12 : g16 ≠ g12 := hn_12_16.symm
   have hn_16_14 : g16 ≠ g14 := hn_14_16.symm
   have hG16 : w.heap.size ≤ g16 := by omega
   clear hsz_ hl_T hl_5 hl_6 hl_10 hl_12 hl_14
   try clear hg16
   have hs_W3 : w.heap.size ≤ W3.heap.size := mB.size
   have hNS := HN.out
   obtain ⟨_, _, _, _, _, _, hn_10_12, hn_12_10, _⟩ := hNS
   have HN2 : Hid (g5 ≠ g16 ∧ g6 ≠ g16 ∧ g14 ≠ g16) := Lib.hid ⟨hn_5_16, hn_6_16, hn_14_16⟩
   try clear hn_T_16 hn_16_T
   try clear hn_5_16 hn_16_5
   try clear hn_6_16 hn_16_6
   try clear hn_14_16 hn_16_14
   have hd_ : 1 ≤ 6 - 1 - 1 := by decide
   have hmx : Try.prog.follows .mixedOrders = true := by kernel_rfl
   cases hO : hullL L with
   | none =>
    rw [hO] at m12
    have HO := Lib.hid hO
    clear hO
    obtain ⟨c16_0, c16_1, c16_2, c16_3⟩ := zcs4 m16
    obtain ⟨c10_0, c10_1, c10_2, c10_3⟩ := zcs4 m10
    have c12_0 := (blk_cell m12 0).trans rfl
    obtain ⟨f10_0, f10_1, f10_2, f10_3⟩ := zfs4 m10
    have f12_0 := blk_frozen m12 0
    skip
    gi_wp2
    clear hn_10_12 hn_12_10
    obtain ⟨hn_5_10, hn_5_12, hn_6_10, hn_6_12, hn_14_10, hn_14_12, hn_10_12, hn_12_10, hn_P_10, hn_X_10, hn_P_12, hn_X_12⟩ := HN.out
    obtain ⟨hn_5_16, hn_6_16, hn_14_16⟩ := HN2.out
    have hE : curB s layer j c.1 = ⟨y.f0, y.f1⟩ := HY.out
    have hmap : boxesL s x layer j0 q ++ List.map (fun c => curB s layer j c.1) (pre ++ [c]) = L ++ [(⟨y.f0, y.f1⟩ : S29)] := by rw [List.map_append, List.map_singleton, ← List.append_assoc, hLL.out, hE]
    refine ⟨(keepsFrom_below hN).trans ((((((KeepsOthers.setCell _ _ _).trans (KeepsOthers.setCell _ _ _)).trans (KeepsOthers.setCell _ _ _)).trans (KeepsOthers.setCell _ _ _)).trans (KeepsOthers.setCell _ _ _)).from _), (KpT.set (p := ⟨g12, 0, none⟩) (KpT.set (p := ⟨g10, 3, none⟩) (KpT.set (p := ⟨g10, 2, none⟩) (KpT.set (p := ⟨g10, 1, none⟩) (KpT.set (p := ⟨g10, 0, none⟩) (KpT.below (Nat.le_trans hs_W0 hXs) hN) hG10 hn_P_10 hn_X_10 _) hG10 hn_P_10 hn_X_10 _) hG10 hn_P_10 hn_X_10 _) hG10 hn_P_10 hn_X_10 _) hG12 hn_P_12 hn_X_12 _), ?_⟩
    dsimp only
    rw [hmap]
    unfold outV
    rw [outV_snoc_none HO.out]
    exact ⟨(blk_far (p := ⟨g12, 0, none⟩) (blk_far (p := ⟨g10, 3, none⟩) (blk_far (p := ⟨g10, 2, none⟩) (blk_far (p := ⟨g10, 1, none⟩) (blk_far (p := ⟨g10, 0, none⟩) m5 hn_5_10 _) hn_5_10 _) hn_5_10 _) hn_5_10 _) hn_5_12 _), (blk_far (p := ⟨g12, 0, none⟩) (blk_far (p := ⟨g10, 3, none⟩) (blk_far (p := ⟨g10, 2, none⟩) (blk_far (p := ⟨g10, 1, none⟩) (blk_far (p := ⟨g10, 0, none⟩) m6 hn_6_10 _) hn_6_10 _) hn_6_10 _) hn_6_10 _) hn_6_12 _), (blk_far (p := ⟨g12, 0, none⟩) (blk_far (p := ⟨g10, 3, none⟩) (blk_far (p := ⟨g10, 2, none⟩) (blk_far (p := ⟨g10, 1, none⟩) (blk_far (p := ⟨g10, 0, none⟩) m14 hn_14_10 _) hn_14_10 _) hn_14_10 _) hn_14_10 _) hn_14_12 _), (blk_far (p := ⟨g12, 0, none⟩) (blk_put (blk_put (blk_put (blk_put m10 0 (.int .i64 y.f0.f0) rfl) 1 (.int .i64 y.f0.f1) rfl) 2 (.int .i64 y.f1.f0) rfl) 3 (.int .i64 y.f1.f1) rfl) hn_10_12 _), (blk_put (blk_far (p := ⟨g10, 3, none⟩) (blk_far (p := ⟨g10, 2, none⟩) (blk_far (p := ⟨g10, 1, none⟩) (blk_far (p := ⟨g10, 0, none⟩) m12 hn_12_10 _) hn_12_10 _) hn_12_10 _) hn_12_10 _) 0 (.bool false) rfl), (Marks.set (Marks.set (Marks.set (Marks.set (Marks.set hM m10 (i := 0) _) (blk_put m10 0 (.int .i64 y.f0.f0) rfl) (i := 1) _) (blk_put (blk_put m10 0 (.int .i64 y.f0.f0) rfl) 1 (.int .i64 y.f0.f1) rfl) (i := 2) _) (blk_put (blk_put (blk_put m10 0 (.int .i64 y.f0.f0) rfl) 1 (.int .i64 y.f0.f1) rfl) 2 (.int .i64 y.f1.f0) rfl) (i := 3) _) (blk_far (p := ⟨g10, 3, none⟩) (blk_far (p := ⟨g10, 2, none⟩) (blk_far (p := ⟨g10, 1, none⟩) (blk_far (p := ⟨g10, 0, none⟩) m12 hn_12_10 _) hn_12_10 _) hn_12_10 _) hn_12_10 _) (i := 0) _), (Below.setCell (p := ⟨g12, 0, none⟩) (Below.setCell (p := ⟨g10, 3, none⟩) (Below.setCell (p := ⟨g10, 2, none⟩) (Below.setCell (p := ⟨g10, 1, none⟩) (Below.setCell (p := ⟨g10, 0, none⟩) mB hG10 _) hG10 _) hG10 _) hG10 _) hG12 _)⟩
   | some z =>
    have hz_ : outV L = z := by unfold outV; rw [hO]; rfl
    rw [hO] at m12
    rw [hz_] at m10
    have HO := Lib.hid hO
    clear hO hz_
    obtain ⟨c16_0, c16_1, c16_2, c16_3⟩ := zcs4 m16
    obtain ⟨c10_0, c10_1, c10_2, c10_3⟩ := zcs4 m10
    have c12_0 := (blk_cell m12 0).trans rfl
    gi_wp2_with fail
    clear c16_0 c16_1 c16_2 c16_3 c10_0 c10_1 c10_2 c10_3 c12_0
    have hcon := hull_any z ⟨y.f0, y.f1⟩ W3
    refine ⟨trivial, (CallsIn.inRound l (callsIn_wide.2 hcon)).mono ?_⟩
    clear hcon
    rintro e W4 ⟨rfl, hb⟩
    generalize hH : hullB z ⟨y.f0, y.f1⟩ = h_ at *
    have HH := Lib.hid hH
    clear hH
    replace hM := hM.below hb
    replace hN := below_step hN hb
    replace mT := blk_below mT hb
    replace m5 := blk_below m5 hb
    replace m6 := blk_below m6 hb
    replace m10 := blk_below m10 hb
    replace m12 := blk_below m12 hb
    replace m14 := blk_below m14 hb
    replace m16 := blk_below m16 hb
    replace mB := below_step mB hb
    clear hb
    have hs_W4 : w.heap.size ≤ W4.heap.size := mB.size
    obtain ⟨c16_0, c16_1, c16_2, c16_3⟩ := zcs4 m16
    obtain ⟨c10_0, c10_1, c10_2, c10_3⟩ := zcs4 m10
    have c12_0 := (blk_cell m12 0).trans rfl
    obtain ⟨f16_0, f16_1, f16_2, f16_3⟩ := zfs4 m16
    obtain ⟨f10_0, f10_1, f10_2, f10_3⟩ := zfs4 m10
    have f12_0 := blk_frozen m12 0
    skip
    gi_wp2
    clear hn_10_12 hn_12_10
    obtain ⟨hn_5_10, hn_5_12, hn_6_10, hn_6_12, hn_14_10, hn_14_12, hn_10_12, hn_12_10, hn_P_10, hn_X_10, hn_P_12, hn_X_12⟩ := HN.out
    obtain ⟨hn_5_16, hn_6_16, hn_14_16⟩ := HN2.out
    have hE : curB s layer j c.1 = ⟨y.f0, y.f1⟩ := HY.out
    have hmap : boxesL s x layer j0 q ++ List.map (fun c => curB s layer j c.1) (pre ++ [c]) = L ++ [(⟨y.f0, y.f1⟩ : S29)] := by rw [List.map_append, List.map_singleton, ← List.append_assoc, hLL.out, hE]
    refine ⟨(keepsFrom_below hN).trans ((((((((((KeepsOthers.setCell _ _ _).trans (KeepsOthers.setCell _ _ _)).trans (KeepsOthers.setCell _ _ _)).trans (KeepsOthers.setCell _ _ _)).trans (KeepsOthers.setCell _ _ _)).trans (KeepsOthers.setCell _ _ _)).trans (KeepsOthers.setCell _ _ _)).trans (KeepsOthers.setCell _ _ _)).trans (KeepsOthers.setCell _ _ _)).from _), (KpT.set (p := ⟨g12, 0, none⟩) (KpT.set (p := ⟨g10, 3, none⟩) (KpT.set (p := ⟨g10, 2, none⟩) (KpT.set (p := ⟨g10, 1, none⟩) (KpT.set (p := ⟨g10, 0, none⟩) (KpT.set (p := ⟨g16, 3, none⟩) (KpT.set (p := ⟨g16, 2, none⟩) (KpT.set (p := ⟨g16, 1, none⟩) (KpT.set (p := ⟨g16, 0, none⟩) (KpT.below (Nat.le_trans hs_W0 hXs) hN) hG16 (Nat.ne_of_lt (Nat.lt_of_lt_of_le (blk_lt mP) hG16W)) (Nat.ne_of_lt (Nat.lt_of_lt_of_le (blk_lt mX) hG16W)) _) hG16 (Nat.ne_of_lt (Nat.lt_of_lt_of_le (blk_lt mP) hG16W)) (Nat.ne_of_lt (Nat.lt_of_lt_of_le (blk_lt mX) hG16W)) _) hG16 (Nat.ne_of_lt (Nat.lt_of_lt_of_le (blk_lt mP) hG16W)) (Nat.ne_of_lt (Nat.lt_of_lt_of_le (blk_lt mX) hG16W)) _) hG16 (Nat.ne_of_lt (Nat.lt_of_lt_of_le (blk_lt mP) hG16W)) (Nat.ne_of_lt (Nat.lt_of_lt_of_le (blk_lt mX) hG16W)) _) hG10 hn_P_10 hn_X_10 _) hG10 hn_P_10 hn_X_10 _) hG10 hn_P_10 hn_X_10 _) hG10 hn_P_10 hn_X_10 _) hG12 hn_P_12 hn_X_12 _), ?_⟩
    dsimp only
    rw [hmap]
    unfold outV
    rw [outV_snoc_some HO.out]
    rw [HH.out]
    exact ⟨(blk_far (p := ⟨g12, 0, none⟩) (blk_far (p := ⟨g10, 3, none⟩) (blk_far (p := ⟨g10, 2, none⟩) (blk_far (p := ⟨g10, 1, none⟩) (blk_far (p := ⟨g10, 0, none⟩) (blk_far (p := ⟨g16, 3, none⟩) (blk_far (p := ⟨g16, 2, none⟩) (blk_far (p := ⟨g16, 1, none⟩) (blk_far (p := ⟨g16, 0, none⟩) m5 hn_5_16 _) hn_5_16 _) hn_5_16 _) hn_5_16 _) hn_5_10 _) hn_5_10 _) hn_5_10 _) hn_5_10 _) hn_5_12 _), (blk_far (p := ⟨g12, 0, none⟩) (blk_far (p := ⟨g10, 3, none⟩) (blk_far (p := ⟨g10, 2, none⟩) (blk_far (p := ⟨g10, 1, none⟩) (blk_far (p := ⟨g10, 0, none⟩) (blk_far (p := ⟨g16, 3, none⟩) (blk_far (p := ⟨g16, 2, none⟩) (blk_far (p := ⟨g16, 1, none⟩) (blk_far (p := ⟨g16, 0, none⟩) m6 hn_6_16 _) hn_6_16 _) hn_6_16 _) hn_6_16 _) hn_6_10 _) hn_6_10 _) hn_6_10 _) hn_6_10 _) hn_6_12 _), (blk_far (p := ⟨g12, 0, none⟩) (blk_far (p := ⟨g10, 3, none⟩) (blk_far (p := ⟨g10, 2, none⟩) (blk_far (p := ⟨g10, 1, none⟩) (blk_far (p := ⟨g10, 0, none⟩) (blk_far (p := ⟨g16, 3, none⟩) (blk_far (p := ⟨g16, 2, none⟩) (blk_far (p := ⟨g16, 1, none⟩) (blk_far (p := ⟨g16, 0, none⟩) m14 hn_14_16 _) hn_14_16 _) hn_14_16 _) hn_14_16 _) hn_14_10 _) hn_14_10 _) hn_14_10 _) hn_14_10 _) hn_14_12 _), (blk_far (p := ⟨g12, 0, none⟩) (blk_put (blk_put (blk_put (blk_put (blk_far (p := ⟨g16, 3, none⟩) (blk_far (p := ⟨g16, 2, none⟩) (blk_far (p := ⟨g16, 1, none⟩) (blk_far (p := ⟨g16, 0, none⟩) m10 hn_10_16 _) hn_10_16 _) hn_10_16 _) hn_10_16 _) 0 (.int .i64 h_.f0.f0) rfl) 1 (.int .i64 h_.f0.f1) rfl) 2 (.int .i64 h_.f1.f0) rfl) 3 (.int .i64 h_.f1.f1) rfl) hn_10_12 _), (blk_put (blk_far (p := ⟨g10, 3, none⟩) (blk_far (p := ⟨g10, 2, none⟩) (blk_far (p := ⟨g10, 1, none⟩) (blk_far (p := ⟨g10, 0, none⟩) (blk_far (p := ⟨g16, 3, none⟩) (blk_far (p := ⟨g16, 2, none⟩) (blk_far (p := ⟨g16, 1, none⟩) (blk_far (p := ⟨g16, 0, none⟩) m12 hn_12_16 _) hn_12_16 _) hn_12_16 _) hn_12_16 _) hn_12_10 _) hn_12_10 _) hn_12_10 _) hn_12_10 _) 0 (.bool false) rfl), (Marks.set (Marks.set (Marks.set (Marks.set (Marks.set (Marks.set (Marks.set (Marks.set (Marks.set hM m16 (i := 0) _) (blk_put m16 0 (.int .i64 h_.f0.f0) rfl) (i := 1) _) (blk_put (blk_put m16 0 (.int .i64 h_.f0.f0) rfl) 1 (.int .i64 h_.f0.f1) rfl) (i := 2) _) (blk_put (blk_put (blk_put m16 0 (.int .i64 h_.f0.f0) rfl) 1 (.int .i64 h_.f0.f1) rfl) 2 (.int .i64 h_.f1.f0) rfl) (i := 3) _) (blk_far (p := ⟨g16, 3, none⟩) (blk_far (p := ⟨g16, 2, none⟩) (blk_far (p := ⟨g16, 1, none⟩) (blk_far (p := ⟨g16, 0, none⟩) m10 hn_10_16 _) hn_10_16 _) hn_10_16 _) hn_10_16 _) (i := 0) _) (blk_put (blk_far (p := ⟨g16, 3, none⟩) (blk_far (p := ⟨g16, 2, none⟩) (blk_far (p := ⟨g16, 1, none⟩) (blk_far (p := ⟨g16, 0, none⟩) m10 hn_10_16 _) hn_10_16 _) hn_10_16 _) hn_10_16 _) 0 (.int .i64 h_.f0.f0) rfl) (i := 1) _) (blk_put (blk_put (blk_far (p := ⟨g16, 3, none⟩) (blk_far (p := ⟨g16, 2, none⟩) (blk_far (p := ⟨g16, 1, none⟩) (blk_far (p := ⟨g16, 0, none⟩) m10 hn_10_16 _) hn_10_16 _) hn_10_16 _) hn_10_16 _) 0 (.int .i64 h_.f0.f0) rfl) 1 (.int .i64 h_.f0.f1) rfl) (i := 2) _) (blk_put (blk_put (blk_put (blk_far (p := ⟨g16, 3, none⟩) (blk_far (p := ⟨g16, 2, none⟩) (blk_far (p := ⟨g16, 1, none⟩) (blk_far (p := ⟨g16, 0, none⟩) m10 hn_10_16 _) hn_10_16 _) hn_10_16 _) hn_10_16 _) 0 (.int .i64 h_.f0.f0) rfl) 1 (.int .i64 h_.f0.f1) rfl) 2 (.int .i64 h_.f1.f0) rfl) (i := 3) _) (blk_far (p := ⟨g10, 3, none⟩) (blk_far (p := ⟨g10, 2, none⟩) (blk_far (p := ⟨g10, 1, none⟩) (blk_far (p := ⟨g10, 0, none⟩) (blk_far (p := ⟨g16, 3, none⟩) (blk_far (p := ⟨g16, 2, none⟩) (blk_far (p := ⟨g16, 1, none⟩) (blk_far (p := ⟨g16, 0, none⟩) m12 hn_12_16 _) hn_12_16 _) hn_12_16 _) hn_12_16 _) hn_12_10 _) hn_12_10 _) hn_12_10 _) hn_12_10 _) (i := 0) _), (Below.setCell (p := ⟨g12, 0, none⟩) (Below.setCell (p := ⟨g10, 3, none⟩) (Below.setCell (p := ⟨g10, 2, none⟩) (Below.setCell (p := ⟨g10, 1, none⟩) (Below.setCell (p := ⟨g10, 0, none⟩) (Below.setCell (p := ⟨g16, 3, none⟩) (Below.setCell (p := ⟨g16, 2, none⟩) (Below.setCell (p := ⟨g16, 1, none⟩) (Below.setCell (p := ⟨g16, 0, none⟩) mB hG16 _) hG16 _) hG16 _) hG16 _) hG10 _) hG10 _) hG10 _) hG10 _) hG12 _)⟩
end Go.Proofs.Ythglkoddmpicdaa.Gl
end
