/- Part 7 of the proof of GliderKnown: what the functions compute. No condition. -/
import Derived.Test.YtmhaiihjfgfaoaaGkGliderKnown3
import Derived.Test.YtmhaiihjfgfaoaaGkGliderKnown6
set_option linter.unusedVariables false
set_option linter.unusedSimpArgs false
section
/- Does a box touch a shore? -/
namespace Go.Proofs.Ytmhaiihjfgfaoaa.Gl
open Go.RowKit Go.Shelf Go.Proofs.YtmhaiihjfgfaoaaW.PrintWords Go.Proofs.YtmhaiihjfgfaoaaW.PrintLast Go.Proofs.YtmhaiihjfgfaoaaW.PrintMore Go.Proofs.Ytmhaiihjfgfaoaa.Pr Go.Proofs.YtmhaiihjfgfaoaaW.Round
set_option linter.unusedVariables false
set_option linter.unusedSimpArgs false
attribute [local go_sem] max2_int min2_int max_two min_two max_four
attribute [local go_sem] Oper.semAt_some
theorem Blk.belowH {W W1 : World} {b : Nat} {c : Array Value} {t : TypeId} (h : W.heap[b]? = some (.cells c t (0, 0))) (hb : Below W.heap.size W W1) : Blk W1 b c t := (hb.block b (Array.getElem?_eq_some_iff.1 h).1).trans h
theorem blk_grownO {B b : Nat} {c : Array Value} {t : TypeId} {X Y : World} {row : Option Nat} (hs : Blk X b c t) (hg : X.grownBy Y row) (hr : ∀ r, row = some r → B ≤ r ∧ ∃ o : Obj, X.heap[r]? = some o ∧ o.isCells = false) : Blk Y b c t :=
 (hg.block b (Array.getElem?_eq_some_iff.1 hs).1 (fun e => by obtain ⟨_, o, ho, hc⟩ := hr b e.symm; rw [show X.heap[b]? = _ from hs] at ho; cases ho; cases hc)).trans hs
theorem keepsFrom_below {B : Nat} {W W1 : World} (hb : Below W.heap.size W W1) : KeepsFrom B W W1 :=
 ⟨hb.size, fun k o _ h0 _ => (hb.block k (Array.getElem?_eq_some_iff.1 h0).1).trans h0⟩
theorem blk_ownFrom {β : Type} (B b : Nat) (f : β → Array Value) (t : TypeId) : OwnFrom B (fun s W => Blk W b (f s) t) := fun s X Y row hs hg hr => blk_grownO hs hg hr
theorem ownFrom_pure {β : Type} (B : Nat) (f : β → Prop) : OwnFrom B (fun s (_ : World) => f s) := fun s X Y row hs hg hr => hs
/-- A result in a cell of one number. -/
theorem results_ci {P : Program} {fn : Func} {p : Tmp} {ty : TypeId} {k : IntKind} (h : fn.results = #[.cell p ty]) (tmps : Array Value) (w : World) (g : Nat) (t : TypeId) (v : Value) (hp : tmps.getD p undef = .pointer (some ⟨g, 0, none⟩)) (hg : w.heap[g]? = some (.cells #[v] t (0, 0))) (hu : P.underlying ty = some (.int k)) :
  (results fn tmps).run P w = .ok v w := by
 have hp' : tmps[p]?.getD undef = .pointer (some ⟨g, 0, none⟩) := by simpa using hp
 have hc : w.cell? ⟨g, 0, none⟩ = some v := (blk_cell hg 0).trans rfl
 have hb : (loadVar ty ⟨g, 0, none⟩).run P w = .ok v w := by
  have ha : (isAgg ty).run P w = .ok false w := by
   unfold isAgg
   rw [Sem.run_bind, run_underlying hu w]
   rfl
  unfold loadVar
  rw [Sem.run_bind, ha]
  go_simp
 simp [results, h, hp', asAddr, hb]
/-- The error of a box that touches a shore. -/
def safeE (s : Sea) (x : S31) : Int := if (touchL s x).any (fun c => rdOf false s.shores c) then 21 else 0
theorem safe_no {s : Sea} {x : S31} {xs : List (CellN s)} (h : AllT s x xs) (hf : ∀ c ∈ xs, rdOf false s.shores c.1 = false) : safeE s x = 0 := by
 unfold safeE
 rw [← show xs.map Subtype.val = touchL s x from h, if_neg]
 rw [List.any_map, List.any_eq_true]
 rintro ⟨c, hc, h1⟩
 have h2 := hf c hc
 rw [show rdOf false s.shores c.1 = true from h1] at h2
 cases h2
theorem safe_yes {s : Sea} {x : S31} {ini : List (CellN s)} {last : CellN s} (h : PreT s x (ini ++ [last])) (hl : rdOf false s.shores last.1 = true) : safeE s x = 21 := by
 unfold safeE
 obtain ⟨t, ht⟩ := h
 rw [← ht, if_pos]
 rw [List.map_append, List.any_append, List.any_append]
 simp [hl]
set_option maxRecDepth 100000 in
set_option maxHeartbeats 4000000 in
theorem safe_any (b : Nat) (s : Sea) (v : Veh) (x : S31) (w : World) (hT : TripAt w b s v) (hS : SeaN s) (hx : InSea s x) (hsh : (s.shores.length : Int) = s.nx * s.ny) :
  Calls Try.prog 115 #[.pointer (some ⟨b, 0, none⟩), .agg #[.int .i64 x.f0.f0, .int .i64 x.f0.f1, .int .i64 x.f1.f0, .int .i64 x.f1.f1]] w (RetB (.int .i64 (safeE s x)) w) := by
 have hu31 := Try.underlying31
 have hxy := mul_in (show 0 ≤ s.nx by have := hS.nx; omega) hS.nx.2 (show 0 ≤ s.ny by have := hS.ny; omega) hS.ny.2
 have HSH := Lib.hid hsh
 clear hsh
 refine (callsIn_wide (n := 6)).1 ?_
 refine callsIn_of_wp_marks Try.func115 rfl trivial ?_ rfl
 simp only [Try.ntmps115, List.size_toArray, List.length_cons, List.length_nil, Nat.reduceAdd, Nat.reduceSub, Array.replicate_succ, Array.replicate_zero, List.push_toArray, List.append_toArray, List.nil_append, List.cons_append]
 gi_wp2_with fail
 refine ⟨trivial, (callsIn_wide.2 (touched_any _ _ _)).mono ?_⟩
 rintro e W_ ⟨rfl, rfl⟩
 gi_wp2_with fail
 have m2 : Blk (((((w.alloc (.cells #[.pointer (some ⟨b, 0, none⟩)] 104)).alloc (.cells #[.int .i64 x.f0.f0, .int .i64 x.f0.f1, .int .i64 x.f1.f0, .int .i64 x.f1.f1] 31)).alloc (.cells #[.int .i64 0] 36)).alloc (.cells #[.pointer (some ⟨b, 0, none⟩)] 104)).alloc (.cells #[.int .i64 x.f0.f0, .int .i64 x.f0.f1, .int .i64 x.f1.f0, .int .i64 x.f1.f1] 31)) (w.heap.size) #[.pointer (some ⟨b, 0, none⟩)] 104 := (blk_alloc (blk_alloc (blk_alloc (blk_alloc zq18 _) _) _) _)
 have m3 : Blk (((((w.alloc (.cells #[.pointer (some ⟨b, 0, none⟩)] 104)).alloc (.cells #[.int .i64 x.f0.f0, .int .i64 x.f0.f1, .int .i64 x.f1.f0, .int .i64 x.f1.f1] 31)).alloc (.cells #[.int .i64 0] 36)).alloc (.cells #[.pointer (some ⟨b, 0, none⟩)] 104)).alloc (.cells #[.int .i64 x.f0.f0, .int .i64 x.f0.f1, .int .i64 x.f1.f0, .int .i64 x.f1.f1] 31)) (w.heap.size + 1) #[.int .i64 x.f0.f0, .int .i64 x.f0.f1, .int .i64 x.f1.f0, .int .i64 x.f1.f1] 31 := (blk_alloc (blk_alloc (blk_alloc zq19 _) _) _)
 have m4 : Blk (((((w.alloc (.cells #[.pointer (some ⟨b, 0, none⟩)] 104)).alloc (.cells #[.int .i64 x.f0.f0, .int .i64 x.f0.f1, .int .i64 x.f1.f0, .int .i64 x.f1.f1] 31)).alloc (.cells #[.int .i64 0] 36)).alloc (.cells #[.pointer (some ⟨b, 0, none⟩)] 104)).alloc (.cells #[.int .i64 x.f0.f0, .int .i64 x.f0.f1, .int .i64 x.f1.f0, .int .i64 x.f1.f1] 31)) (w.heap.size + 1 + 1) #[.int .i64 0] 36 := (blk_alloc (blk_alloc (by have h_ := blk_new ((w.alloc (.cells #[.pointer (some ⟨b, 0, none⟩)] 104)).alloc (.cells #[.int .i64 x.f0.f0, .int .i64 x.f0.f1, .int .i64 x.f1.f0, .int .i64 x.f1.f1] 31)) (.cells #[.int .i64 0] 36); first | exact h_ | (simp only [World.size_alloc] at h_; exact h_)) _) _)
 have mP : Blk (((((w.alloc (.cells #[.pointer (some ⟨b, 0, none⟩)] 104)).alloc (.cells #[.int .i64 x.f0.f0, .int .i64 x.f0.f1, .int .i64 x.f1.f0, .int .i64 x.f1.f1] 31)).alloc (.cells #[.int .i64 0] 36)).alloc (.cells #[.pointer (some ⟨b, 0, none⟩)] 104)).alloc (.cells #[.int .i64 x.f0.f0, .int .i64 x.f0.f1, .int .i64 x.f1.f0, .int .i64 x.f1.f1] 31)) (w.heap.size + 1 + 1 + 1) #[.pointer (some ⟨b, 0, none⟩)] 104 := (blk_alloc (by have h_ := blk_new (((w.alloc (.cells #[.pointer (some ⟨b, 0, none⟩)] 104)).alloc (.cells #[.int .i64 x.f0.f0, .int .i64 x.f0.f1, .int .i64 x.f1.f0, .int .i64 x.f1.f1] 31)).alloc (.cells #[.int .i64 0] 36)) (.cells #[.pointer (some ⟨b, 0, none⟩)] 104); first | exact h_ | (simp only [World.size_alloc] at h_; exact h_)) _)
 have mX : Blk (((((w.alloc (.cells #[.pointer (some ⟨b, 0, none⟩)] 104)).alloc (.cells #[.int .i64 x.f0.f0, .int .i64 x.f0.f1, .int .i64 x.f1.f0, .int .i64 x.f1.f1] 31)).alloc (.cells #[.int .i64 0] 36)).alloc (.cells #[.pointer (some ⟨b, 0, none⟩)] 104)).alloc (.cells #[.int .i64 x.f0.f0, .int .i64 x.f0.f1, .int .i64 x.f1.f0, .int .i64 x.f1.f1] 31)) (w.heap.size + 1 + 1 + 1 + 1) #[.int .i64 x.f0.f0, .int .i64 x.f0.f1, .int .i64 x.f1.f0, .int .i64 x.f1.f1] 31 := (by have h_ := blk_new ((((w.alloc (.cells #[.pointer (some ⟨b, 0, none⟩)] 104)).alloc (.cells #[.int .i64 x.f0.f0, .int .i64 x.f0.f1, .int .i64 x.f1.f0, .int .i64 x.f1.f1] 31)).alloc (.cells #[.int .i64 0] 36)).alloc (.cells #[.pointer (some ⟨b, 0, none⟩)] 104)) (.cells #[.int .i64 x.f0.f0, .int .i64 x.f0.f1, .int .i64 x.f1.f0, .int .i64 x.f1.f1] 31); first | exact h_ | (simp only [World.size_alloc] at h_; exact h_))
 have mB : Below w.heap.size w (((((w.alloc (.cells #[.pointer (some ⟨b, 0, none⟩)] 104)).alloc (.cells #[.int .i64 x.f0.f0, .int .i64 x.f0.f1, .int .i64 x.f1.f0, .int .i64 x.f1.f1] 31)).alloc (.cells #[.int .i64 0] 36)).alloc (.cells #[.pointer (some ⟨b, 0, none⟩)] 104)).alloc (.cells #[.int .i64 x.f0.f0, .int .i64 x.f0.f1, .int .i64 x.f1.f0, .int .i64 x.f1.f1] 31)) := (below_alloc (below_alloc (below_alloc (below_alloc (below_alloc (Below.refl w.heap.size w) _) _) _) _) _)
 have hsz_ : w.heap.size ≤ w.heap.size := Nat.le_refl _
 generalize hW_ : (((((w.alloc (.cells #[.pointer (some ⟨b, 0, none⟩)] 104)).alloc (.cells #[.int .i64 x.f0.f0, .int .i64 x.f0.f1, .int .i64 x.f1.f0, .int .i64 x.f1.f1] 31)).alloc (.cells #[.int .i64 0] 36)).alloc (.cells #[.pointer (some ⟨b, 0, none⟩)] 104)).alloc (.cells #[.int .i64 x.f0.f0, .int .i64 x.f0.f1, .int .i64 x.f1.f0, .int .i64 x.f1.f1] 31)) = W0 at m2 m3 m4 mP mX mB ⊢
 clear hW_
 generalize hg2 : w.heap.size = g2 at m2 m3 m4 mP mX ⊢
 have hG2 : w.heap.size ≤ g2 := by omega
 generalize hg3 : g2 + 1 = g3 at m3 m4 mP mX ⊢
 have hn_2_3 : g2 ≠ g3 := by omega
 have hn_3_2 : g3 ≠ g2 := hn_2_3.symm
 have hG3 : w.heap.size ≤ g3 := by omega
 generalize hg4 : g3 + 1 = g4 at m4 mP mX ⊢
 have hn_2_4 : g2 ≠ g4 := by omega
 have hn_3_4 : g3 ≠ g4 := by omega
 have hn_4_2 : g4 ≠ g2 := hn_2_4.symm
 have hn_4_3 : g4 ≠ g3 := hn_3_4.symm
 have hG4 : w.heap.size ≤ g4 := by omega
 generalize hgP : g4 + 1 = gP at mP mX ⊢
 have hn_2_P : g2 ≠ gP := by omega
 have hn_3_P : g3 ≠ gP := by omega
 have hn_4_P : g4 ≠ gP := by omega
 have hn_P_2 : gP ≠ g2 := hn_2_P.symm
 have hn_P_3 : gP ≠ g3 := hn_3_P.symm
 have hn_P_4 : gP ≠ g4 := hn_4_P.symm
 have hGP : w.heap.size ≤ gP := by omega
 generalize hgX : gP + 1 = gX at mX ⊢
 have hn_2_X : g2 ≠ gX := by omega
 have hn_3_X : g3 ≠ gX := by omega
 have hn_4_X : g4 ≠ gX := by omega
 have hn_P_X : gP ≠ gX := by omega
 have hn_X_2 : gX ≠ g2 := hn_2_X.symm
 have hn_X_3 : gX ≠ g3 := hn_3_X.symm
 have hn_X_4 : gX ≠ g4 := hn_4_X.symm
 have hn_X_P : gX ≠ gP := hn_P_X.symm
 have hGX : w.heap.size ≤ gX := by omega
 clear hsz_
 try clear hgX
 try clear hgP
 try clear hg4
 try clear hg3
 try clear hg2
 have hs_W0 : w.heap.size ≤ W0.heap.size := mB.size
 refine wpIn_rangeFunc_ownH rfl (by omega) (gf := 135) (lb := #[.pointer (some ⟨gP, 0, none⟩), .pointer (some ⟨gX, 0, none⟩)]) rfl trivial (enters_of Try.func135 zq1 rfl)
  (encs := fun c : CellN s => #[.int .i64 c.1]) (Kp := Below W0.heap.size) (S := AllT s x) (Sp := PreT s x) (N := (touchL s x).length) (w0 := W0)
  (fun l J Jx W hW hJ _ hY h0 => touched1_in 5 (by omega) l gP gX W0 b s v x (hT.below mB) hS hx (Below W0.heap.size) (fun A B h hE => ⟨hE.1.trans h, (h.block gP (blk_lt mP)).trans hE.2.1, (h.block gX (blk_lt mX)).trans hE.2.2⟩) J Jx hY (fun f X Y h hB => hJ f X Y none h ⟨hB.os, hB.tape, hB.output, hB.size, fun k hk _ => hB.block k hk⟩ (fun r e => by cases e)) W ⟨hW, Blk.belowH mP hW, Blk.belowH mX hW⟩ h0) belowK_t (belowK_b (by omega)) (Below.refl _ _) (fun _ => rfl)
  (fun pre W => (∀ c ∈ pre, rdOf false s.shores c.1 = false) ∧ Blk W g2 #[.pointer (some ⟨b, 0, none⟩)] 104 ∧ Blk W g4 #[.int .i64 0] 36 ∧ Below w.heap.size w W)
  (fun c pre W => ∃ ini last, (c = .ret ∧ pre = ini ++ [last] ∧ rdOf false s.shores last.1 = true) ∧ Blk W g4 #[.int .i64 21] 36 ∧ Below w.heap.size w W)
  (OwnFrom.and (ownFrom_pure _ _) (OwnFrom.and (blk_ownFrom _ _ (fun _ => _) _) (OwnFrom.and (blk_ownFrom _ _ (fun _ => _) _) (ownFrom_below (by omega) (by omega)))))
  (fun c pre X Y row hs hg hr => by
   obtain ⟨ini, last, h1, h2, h3⟩ := hs
   exact ⟨ini, last, h1, blk_grownO h2 hg hr, ownFrom_below (by omega) (by omega) () X Y row h3 hg hr⟩)
  ⟨by simp, m2, m4, mB⟩
  (fun c a' W => a' = { tmps := #[.pointer (some ⟨b, 0, none⟩), .agg #[.int .i64 x.f0.f0, .int .i64 x.f0.f1, .int .i64 x.f1.f0, .int .i64 x.f1.f1], .pointer (some ⟨g2, 0, none⟩), .pointer (some ⟨g3, 0, none⟩), .pointer (some ⟨g4, 0, none⟩), .int .i64 c.1, .pointer (some ⟨b, 0, none⟩), .agg #[.int .i64 x.f0.f0, .int .i64 x.f0.f1, .int .i64 x.f1.f0, .int .i64 x.f1.f1], .func (.func 135) #[] #[.pointer (some ⟨gP, 0, none⟩), .pointer (some ⟨gX, 0, none⟩)], .int .i64 c.1, undef, undef, undef, undef, undef, undef, undef, undef], defers := [] })
  (fun c a' s X Y row hs hg hr => hs) ?assign ?body ?done ?stop
 case assign =>
  rintro l pre c W K hI hK
  gi_wp2
  exact hK _ _ ((KeepsOthers.refl W).from _) (Below.refl _ _) hI rfl
 case body =>
  rintro l pre c a' W hlW ⟨r, hr⟩ ⟨h0, h2, h4, hB⟩ rfl hlen
  have hT2 := hT.below hB
  obtain ⟨A7, c7, A8, c8, hBt, q1, q2, _⟩ := hT2
  have hlt : c.1 < (s.shores.length : Int) := by rw [HSH.out]; exact c.2.2
  have hge := c.2.1
  obtain ⟨ad, e_, hx_⟩ := Kd.at_bool q2 c.1 hge hlt
  cases e_
  have c2 := (blk_cell h2 0).trans rfl
  have ct := (blk_cell hBt 7).trans rfl
  clear hBt q1 q2 hr
  cases hv : rdOf false s.shores c.1 with
  | false =>
   rw [hv] at hx_
   have HV := Lib.hid hv
   clear hv
   gi_wp2
   exact ⟨(KeepsOthers.refl W).from _, Below.refl _ _, by
    intro p hp
    rcases List.mem_append.1 hp with hp | hp
    ·exact h0 p hp
    ·obtain rfl := List.mem_singleton.1 hp
     exact HV.out, h2, h4, hB⟩
  | true =>
   rw [hv] at hx_
   have HV := Lib.hid hv
   clear hv
   have c4 := (blk_cell h4 0).trans rfl
   have f4 := blk_frozen h4 0
   gi_wp2
   exact ⟨(KeepsOthers.setCell _ _ _).from _, pre, c, ⟨rfl, rfl, HV.out⟩, blk_put h4 0 _ rfl, hB.setCell hG4 _⟩
 case done =>
  rintro D_ xs W hD hxs ⟨h0, h2, h4, hB⟩ hK
  have hE := Lib.hid (safe_no hxs h0)
  clear h0
  have c4 := (blk_cell h4 0).trans rfl
  have f4 := blk_frozen h4 0
  gi_wp2
  have hne : D_ ≠ g4 := by have h_ := blk_lt m4; omega
  refine ⟨by simp, .inl ⟨_, _, rfl, run_takeDeferred ((Below.heap_setCell _ _ _ D_ hne).trans hK), ?_⟩⟩
  exact ⟨_, results_ci rfl _ _ g4 36 (.int .i64 0) rfl ((World.putObj_heap_other (fun e => hne e.symm)).trans (blk_put h4 0 _ rfl)) Try.underlying36, by rw [hE.out], (hB.setCell hG4 _).trans (belowK_b (w := w) (Nat.le_refl _) _ D_ _ _ (by have h_ := hB.size; omega) ((Below.heap_setCell _ _ _ D_ hne).trans hK) rfl rfl)⟩
 case stop =>
  rintro D_ c pre W hD hp ⟨ini, last, ⟨rfl, rfl, h1⟩, h4, hB⟩ hK
  have hE := Lib.hid (safe_yes hp h1)
  gi_wp2
  have hne : D_ ≠ g4 := by have h_ := blk_lt m4; omega
  refine ⟨by simp, .inl ⟨_, _, rfl, run_takeDeferred hK, ?_⟩⟩
  exact ⟨_, results_ci rfl _ _ g4 36 (.int .i64 21) rfl ((World.putObj_heap_other (fun e => hne e.symm)).trans h4) Try.underlying36, by rw [hE.out], hB.trans (belowK_b (w := w) (Nat.le_refl _) _ D_ _ _ (by omega) hK rfl rfl)⟩
end Go.Proofs.Ytmhaiihjfgfaoaa.Gl
end
section
namespace Go.Proofs.Ytmhaiihjfgfaoaa.Pr
open Go.RowKit Go.Proofs.YtmhaiihjfgfaoaaW.PrintWords Go.Proofs.YtmhaiihjfgfaoaaW.PrintLast Go.Proofs.YtmhaiihjfgfaoaaW.PrintMore
attribute [local go_sem] max2_int min2_int max_two min_two max_four
set_option linter.unusedVariables false
set_option linter.unusedSimpArgs false

/-! ### glider_hull: function 119 -/
def glider_hull.f (a0_0 : Int) (a0_1 : Int) (a0_2 : Int) (a0_3 : Int) (a1_0 : Int) (a1_1 : Int) (a1_2 : Int) (a1_3 : Int) : Option (Int × Int × Int × Int) := some (mn a0_0 a1_0, mx a0_1 a1_1, mn a0_2 a1_2, mx a0_3 a1_3)
set_option maxHeartbeats 8000000 in
set_option maxRecDepth 100000 in
theorem glider_hull.calls (a0_0 : Int) (a0_1 : Int) (a0_2 : Int) (a0_3 : Int) (a1_0 : Int) (a1_1 : Int) (a1_2 : Int) (a1_3 : Int) (r1 : Int) (r2 : Int) (r3 : Int) (r4 : Int) (w : World) (h : glider_hull.f a0_0 a0_1 a0_2 a0_3 a1_0 a1_1 a1_2 a1_3 = some (r1, r2, r3, r4)) :
  Calls Try.prog 119 #[.agg #[.int .i64 a0_0, .int .i64 a0_1, .int .i64 a0_2, .int .i64 a0_3], .agg #[.int .i64 a1_0, .int .i64 a1_1, .int .i64 a1_2, .int .i64 a1_3]] w fun e w' => e = .returned (.agg #[.int .i64 r1, .int .i64 r2, .int .i64 r3, .int .i64 r4]) ∧ Below w.heap.size w w' := by
 have hu31 := Try.underlying31
 have hu27 := Try.underlying27
 have HB := Aside0.mk (Below.refl w.heap.size w)
 have H : (some (mn a0_0 a1_0, mx a0_1 a1_1, mn a0_2 a1_2, mx a0_3 a1_3)) = some (r1, r2, r3, r4) := h
 clear h
 obtain ⟨ji3, hji3⟩ : ∃ j_ : Int, (mn a0_0 a1_0) = j_ := ⟨_, rfl⟩
 replace H : (some (ji3, mx a0_1 a1_1, mn a0_2 a1_2, mx a0_3 a1_3)) = some (r1, r2, r3, r4) := by first | (rw [hji3] at H; exact H) | (simp only [hji3] at H ⊢; exact H)
 have hji3_ : (if a1_0 < a0_0 then a1_0 else a0_0) = ji3 := hji3
 obtain ⟨ji4, hji4⟩ : ∃ j_ : Int, (mx a0_1 a1_1) = j_ := ⟨_, rfl⟩
 replace H : (some (ji3, ji4, mn a0_2 a1_2, mx a0_3 a1_3)) = some (r1, r2, r3, r4) := by first | (rw [hji4] at H; exact H) | (simp only [hji4] at H ⊢; exact H)
 have hji4_ : (if a0_1 < a1_1 then a1_1 else a0_1) = ji4 := hji4
 obtain ⟨ji5, hji5⟩ : ∃ j_ : Int, (mn a0_2 a1_2) = j_ := ⟨_, rfl⟩
 replace H : (some (ji3, ji4, ji5, mx a0_3 a1_3)) = some (r1, r2, r3, r4) := by first | (rw [hji5] at H; exact H) | (simp only [hji5] at H ⊢; exact H)
 have hji5_ : (if a1_2 < a0_2 then a1_2 else a0_2) = ji5 := hji5
 obtain ⟨ji6, hji6⟩ : ∃ j_ : Int, (mx a0_3 a1_3) = j_ := ⟨_, rfl⟩
 replace H : (some (ji3, ji4, ji5, ji6)) = some (r1, r2, r3, r4) := by first | (rw [hji6] at H; exact H) | (simp only [hji6] at H ⊢; exact H)
 have hji6_ : (if a0_3 < a1_3 then a1_3 else a0_3) = ji6 := hji6
 simp only [Option.some.injEq, Prod.mk.injEq] at H
 obtain ⟨rfl, rfl, rfl, rfl⟩ := H
 go_enter Try.func119, Try.ntmps119
 go_wp2_with (first | ((with_reducible refine gate_dst (N := 2) rfl ?_); refine box_event (by rfl) (N := 2) (by rfl) (cs := #[.int .i64 a0_0, .int .i64 a0_1, .int .i64 a0_2, .int .i64 a0_3]) (t := 31) zq4 ?_; intro gb192 hg w7 hbox hb; have BK192 := Aside0.mk (hbox); have GW192 := zgs HB hg; have GE192 := zgs HB hg; replace HB := zbs HB hb; clear hb hbox hg) | ((with_reducible refine gate_dst (N := 3) rfl ?_); refine box_event (by rfl) (N := 3) (by rfl) (cs := #[.int .i64 a1_0, .int .i64 a1_1, .int .i64 a1_2, .int .i64 a1_3]) (t := 31) zq4 ?_; intro gb193 hg w8 hbox hb; have BK193 := Aside0.mk (hbox); have GW193 := zgs HB hg; have GE193 := zgs HB hg; have NB192_193 := znp BK192 hg; have NB193_192 := znq BK192 hg; replace BK192 := zbb BK192 hb; replace HB := zbs HB hb; clear hb hbox hg) | ((with_reducible refine gate_dst (N := 4) rfl ?_); refine box_event (by rfl) (N := 4) (by rfl) (cs := #[.int .i64 0, .int .i64 0, .int .i64 0, .int .i64 0]) (t := 31) zq4 ?_; intro gb194 hg w9 hbox hb; have BK194 := Aside0.mk (hbox); have GW194 := zgs HB hg; have GE194 := zgs HB hg; have NB192_194 := znp BK192 hg; have NB194_192 := znq BK192 hg; have NB193_194 := znp BK193 hg; have NB194_193 := znq BK193 hg; replace BK192 := zbb BK192 hb; replace BK193 := zbb BK193 hb; replace HB := zbs HB hb; clear hb hbox hg; have hnb10 := NB192_193.out; have hnc10 := NB193_192.out; have hnb11 := NB192_194.out; have hnc11 := NB194_192.out; obtain ⟨hcz12_0, hcz12_1, hcz12_2, hcz12_3, hfz12_0, hfz12_1, hfz12_2, hfz12_3⟩ := zce4 BK192.out; have hnb13 := NB193_194.out; have hnc13 := NB194_193.out; obtain ⟨hcz14_0, hcz14_1, hcz14_2, hcz14_3, hfz14_0, hfz14_1, hfz14_2, hfz14_3⟩ := zce4 BK193.out; obtain ⟨hcz15_0, hcz15_1, hcz15_2, hcz15_3, hfz15_0, hfz15_1, hfz15_2, hfz15_3⟩ := zce4 BK194.out))
 refine bodyPost_ret (results_cell_row rfl _ _ gb194 31 #[.int .i64 ji3, .int .i64 ji4, .int .i64 ji5, .int .i64 ji6] (0, 0) _ rfl (by (with_reducible repeat (first | refine blk_drewN ?_ _ | refine blk_drew ?_ | refine blk_alloc ?_ _)); refine blk_put (cs := #[.int .i64 ji3, .int .i64 ji4, .int .i64 ji5, .int .i64 0]) ?_ 3 _ rfl; (with_reducible repeat (first | refine blk_drewN ?_ _ | refine blk_drew ?_ | refine blk_alloc ?_ _)); refine blk_put (cs := #[.int .i64 ji3, .int .i64 ji4, .int .i64 0, .int .i64 0]) ?_ 2 _ rfl; (with_reducible repeat (first | refine blk_drewN ?_ _ | refine blk_drew ?_ | refine blk_alloc ?_ _)); refine blk_put (cs := #[.int .i64 ji3, .int .i64 0, .int .i64 0, .int .i64 0]) ?_ 1 _ rfl; (with_reducible repeat (first | refine blk_drewN ?_ _ | refine blk_drew ?_ | refine blk_alloc ?_ _)); refine blk_put (cs := #[.int .i64 0, .int .i64 0, .int .i64 0, .int .i64 0]) ?_ 0 _ rfl; (with_reducible repeat (first | refine blk_drewN ?_ _ | refine blk_drew ?_ | refine blk_alloc ?_ _)); exact BK194.out) Try.underlying31 rfl zq1) rfl ?_
 exact ⟨by first | rfl | (simp [errW_none, errW_some] <;> rfl) | (simp only [← hji3, ← hji4, ← hji5, ← hji6]; first | rfl | (simp [errW_none, errW_some] <;> rfl)) | (simp [*, errW_none, errW_some] <;> rfl), zbz⟩

end Go.Proofs.Ytmhaiihjfgfaoaa.Pr
end
