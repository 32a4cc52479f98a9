/- Part 21 of the proof of GliderStays: what the functions compute. No condition. -/
import Derived.Test.YtmhaiihjfgfaoaaGyGliderStays3
import Derived.Test.YtmhaiihjfgfaoaaGyGliderStays20
section
/- Which boxes are a proof, as the program checks them. -/
namespace Go.Proofs.Ytmhaiihjfgfaoaa.Gl
open Go.RowKit Go.Shelf Go.Proofs.YtmhaiihjfgfaoaaW.PrintWords Go.Proofs.YtmhaiihjfgfaoaaW.PrintLast Go.Proofs.YtmhaiihjfgfaoaaW.PrintMore Go.Proofs.Ytmhaiihjfgfaoaa.Pr Go.Proofs.YtmhaiihjfgfaoaaW.Round
set_option linter.unusedVariables false
set_option linter.unusedSimpArgs false
attribute [local go_sem] max2_int min2_int max_two min_two max_four
attribute [local go_sem] Oper.semAt_some
def insF (s : Sea) (v : Veh) (x g : S31) (t : Int) (tb : S31) (a : Int) (l : List S33) : Int := l.foldl (fun a c => if insI (endsI s v x g t c.f0 c.f1) tb = 2 then a else 16) a
theorem insF_snoc (s : Sea) (v : Veh) (x g : S31) (t : Int) (tb : S31) (a : Int) (l : List S33) (c : S33) : insF s v x g t tb a (l ++ [c]) = if insI (endsI s v x g t c.f0 c.f1) tb = 2 then insF s v x g t tb a l else 16 := by unfold insF; rw [List.foldl_append]; rfl
/-- Do all dives end in the box? What was wrong before stays wrong. -/
def insAll (s : Sea) (v : Veh) (x : S31) (t : Int) (tb : S31) (a : Int) : Int := insF s v x (grownI s v x) t tb a (crsL s)
def ckI (s : Sea) (v : Veh) : List S31 → S31 → Int → Int → Int
 | [], _, _, a => a
 | tb :: l, x, t, a => if reachE s v x t ≠ 0 then reachE s v x t else ckI s v l tb (t + v.dive) (insAll s v x t tb a)
/-- What CheckReach returns. -/
def CkX (s : Sea) (v : Veh) (x : S31) (t : Int) (l : List S31) : Int := if beginE s v x t ≠ 0 then beginE s v x t else if boxesE l ≠ 0 then boxesE l else ckI s v l x t 0
theorem boxesE_ok {l : List S31} (h : boxesE l = 0) : l.length ≤ 64 ∧ ∀ x ∈ l, BoxOK x := by
 unfold boxesE at h
 by_cases h1 : l.length > 64
 ·rw [if_pos h1] at h; cases h
 ·rw [if_neg h1] at h
  refine ⟨by omega, fun x hx => boxB_ok ?_⟩
  cases hb : l.any (fun x => !boxB x) with
  | true => rw [hb] at h; cases h
  | false =>
   have h2 := List.any_eq_false.1 hb x hx
   unfold boxE
   cases h3 : boxB x with
   | true => rfl
   | false => rw [h3] at h2; exact absurd rfl h2
/-- What a round keeps: the trip and what the iterator has captured. -/
def KpD (w : World) (g bp : Nat) (tc : Array Value) (A B : World) : Prop := Below w.heap.size A B ∧ (Blk A g tc 110 → Blk B g tc 110) ∧ (Blk A bp #[.pointer (some ⟨g, 0, none⟩)] 104 → Blk B bp #[.pointer (some ⟨g, 0, none⟩)] 104)
theorem KpD.trans {w : World} {g bp : Nat} {tc : Array Value} {A B C : World} (h : KpD w g bp tc A B) (k : KpD w g bp tc B C) : KpD w g bp tc A C := ⟨h.1.trans k.1, fun q => k.2.1 (h.2.1 q), fun q => k.2.2 (h.2.2 q)⟩
theorem KpD.put {w W0 : World} {g bp : Nat} {tc : Array Value} (hw : w.heap.size ≤ W0.heap.size) (hg : g < W0.heap.size) (hp : bp < W0.heap.size) (W : World) (l : Nat) (o o' : Obj) (hl : W0.heap.size ≤ l) (h : W.heap[l]? = some o) (h1 : o.isCells = false) (h2 : o.isWalk = false) : KpD w g bp tc W (W.putObj l o') :=
 ⟨belowK_b hw W l o o' hl h h1 h2, fun q => (World.putObj_heap_other (by omega)).trans q, fun q => (World.putObj_heap_other (by omega)).trans q⟩
theorem KpD.below {w : World} {g bp : Nat} {tc : Array Value} {A B : World} (hw : w.heap.size ≤ A.heap.size) (h : Below A.heap.size A B) : KpD w g bp tc A B := ⟨h.mono hw, fun q => Blk.belowH q h, fun q => Blk.belowH q h⟩
theorem KpD.set {w : World} {g bp : Nat} {tc : Array Value} {A B : World} (h : KpD w g bp tc A B) {p : Addr} (hp : w.heap.size ≤ p.block) (h1 : g ≠ p.block) (h2 : bp ≠ p.block) (u : Value) : KpD w g bp tc A (B.setCell p u) := ⟨h.1.setCell hp u, fun q => blk_far (h.2.1 q) h1 u, fun q => blk_far (h.2.2 q) h2 u⟩
set_option maxRecDepth 100000 in
set_option maxHeartbeats 16000000 in
theorem CheckReach_any (s : Sea) (v : Veh) (x : S31) (t : Int) (A : Option Addr) (c : Nat) (l : List S31) (A7 A8 : Option Addr) (c7 c8 : Nat) (w : World) (h7 : s.shores.length ≤ c7) (hC7 : Kd.C Kd.bool w A7 s.shores.length s.shores) (h8 : s.currents.length ≤ c8) (hC8 : Kd.C k40 w A8 s.currents.length s.currents) (hC : Kd.C k31 w A l.length l) (hc : l.length ≤ c) :
  Calls Try.prog 51 #[.agg #[.int .i64 s.nx, .int .i64 s.ny, .int .i64 s.cell, .int .i64 s.slot, .int .i64 s.slots, .int .i64 s.layers, .int .i64 s.most, .slice A7 s.shores.length c7, .slice A8 s.currents.length c8], .agg #[.int .i64 v.speed, .int .i64 v.dive, .int .i64 v.use.f0, .int .i64 v.use.f1, .int .i64 v.drift.f0, .int .i64 v.drift.f1, .int .i64 v.reserve], .agg #[.int .i64 x.f0.f0, .int .i64 x.f0.f1, .int .i64 x.f1.f0, .int .i64 x.f1.f1], .int .i64 t, .slice A l.length c] w (RetB (.int .i64 (CkX s v x t l)) w) := by
 have hu25 := Try.underlying25
 have hu29 := Try.underlying29
 have hu31 := Try.underlying31
 have hu33 := Try.underlying33
 have hu27 := Try.underlying27
 have HX : Hid (CkX s v x t l = if beginE s v x t ≠ 0 then beginE s v x t else if boxesE l ≠ 0 then boxesE l else ckI s v l x t 0) := Lib.hid rfl
 have hbg : beginE s v x t = if tripE s v ≠ 0 then tripE s v else placeE x t := rfl
 have HBG := Lib.hid hbg
 clear hbg
 refine (callsIn_wide (n := 7)).1 ?_
 refine callsIn_of_wp_marks Try.func51 rfl trivial ?_ rfl
 simp only [Try.ntmps51, List.size_toArray, List.length_cons, List.length_nil, Nat.reduceAdd, Nat.reduceSub, Array.replicate_succ, Array.replicate_zero, List.push_toArray, List.append_toArray, List.nil_append, List.cons_append]
 gi_wp2_with fail
 have m5 : Blk ((((w.alloc (.cells #[.int .i64 s.nx, .int .i64 s.ny, .int .i64 s.cell, .int .i64 s.slot, .int .i64 s.slots, .int .i64 s.layers, .int .i64 s.most, .slice A7 s.shores.length c7, .slice A8 s.currents.length c8] 25)).alloc (.cells #[.int .i64 v.speed, .int .i64 v.dive, .int .i64 v.use.f0, .int .i64 v.use.f1, .int .i64 v.drift.f0, .int .i64 v.drift.f1, .int .i64 v.reserve] 29)).alloc (.cells #[.int .i64 x.f0.f0, .int .i64 x.f0.f1, .int .i64 x.f1.f0, .int .i64 x.f1.f1] 31)).alloc (.cells #[.int .i64 t] 2)) (w.heap.size) #[.int .i64 s.nx, .int .i64 s.ny, .int .i64 s.cell, .int .i64 s.slot, .int .i64 s.slots, .int .i64 s.layers, .int .i64 s.most, .slice A7 s.shores.length c7, .slice A8 s.currents.length c8] 25 := (blk_alloc (blk_alloc (blk_alloc zq15 _) _) _)
 have m6 : Blk ((((w.alloc (.cells #[.int .i64 s.nx, .int .i64 s.ny, .int .i64 s.cell, .int .i64 s.slot, .int .i64 s.slots, .int .i64 s.layers, .int .i64 s.most, .slice A7 s.shores.length c7, .slice A8 s.currents.length c8] 25)).alloc (.cells #[.int .i64 v.speed, .int .i64 v.dive, .int .i64 v.use.f0, .int .i64 v.use.f1, .int .i64 v.drift.f0, .int .i64 v.drift.f1, .int .i64 v.reserve] 29)).alloc (.cells #[.int .i64 x.f0.f0, .int .i64 x.f0.f1, .int .i64 x.f1.f0, .int .i64 x.f1.f1] 31)).alloc (.cells #[.int .i64 t] 2)) (w.heap.size + 1) #[.int .i64 v.speed, .int .i64 v.dive, .int .i64 v.use.f0, .int .i64 v.use.f1, .int .i64 v.drift.f0, .int .i64 v.drift.f1, .int .i64 v.reserve] 29 := (blk_alloc (blk_alloc zq37 _) _)
 have m7 : Blk ((((w.alloc (.cells #[.int .i64 s.nx, .int .i64 s.ny, .int .i64 s.cell, .int .i64 s.slot, .int .i64 s.slots, .int .i64 s.layers, .int .i64 s.most, .slice A7 s.shores.length c7, .slice A8 s.currents.length c8] 25)).alloc (.cells #[.int .i64 v.speed, .int .i64 v.dive, .int .i64 v.use.f0, .int .i64 v.use.f1, .int .i64 v.drift.f0, .int .i64 v.drift.f1, .int .i64 v.reserve] 29)).alloc (.cells #[.int .i64 x.f0.f0, .int .i64 x.f0.f1, .int .i64 x.f1.f0, .int .i64 x.f1.f1] 31)).alloc (.cells #[.int .i64 t] 2)) (w.heap.size + 1 + 1) #[.int .i64 x.f0.f0, .int .i64 x.f0.f1, .int .i64 x.f1.f0, .int .i64 x.f1.f1] 31 := (blk_alloc zq38 _)
 have m8 : Blk ((((w.alloc (.cells #[.int .i64 s.nx, .int .i64 s.ny, .int .i64 s.cell, .int .i64 s.slot, .int .i64 s.slots, .int .i64 s.layers, .int .i64 s.most, .slice A7 s.shores.length c7, .slice A8 s.currents.length c8] 25)).alloc (.cells #[.int .i64 v.speed, .int .i64 v.dive, .int .i64 v.use.f0, .int .i64 v.use.f1, .int .i64 v.drift.f0, .int .i64 v.drift.f1, .int .i64 v.reserve] 29)).alloc (.cells #[.int .i64 x.f0.f0, .int .i64 x.f0.f1, .int .i64 x.f1.f0, .int .i64 x.f1.f1] 31)).alloc (.cells #[.int .i64 t] 2)) (w.heap.size + 1 + 1 + 1) #[.int .i64 t] 2 := (by have h_ := blk_new (((w.alloc (.cells #[.int .i64 s.nx, .int .i64 s.ny, .int .i64 s.cell, .int .i64 s.slot, .int .i64 s.slots, .int .i64 s.layers, .int .i64 s.most, .slice A7 s.shores.length c7, .slice A8 s.currents.length c8] 25)).alloc (.cells #[.int .i64 v.speed, .int .i64 v.dive, .int .i64 v.use.f0, .int .i64 v.use.f1, .int .i64 v.drift.f0, .int .i64 v.drift.f1, .int .i64 v.reserve] 29)).alloc (.cells #[.int .i64 x.f0.f0, .int .i64 x.f0.f1, .int .i64 x.f1.f0, .int .i64 x.f1.f1] 31)) (.cells #[.int .i64 t] 2); first | exact h_ | (simp only [World.size_alloc] at h_; exact h_))
 have mB : Below w.heap.size w ((((w.alloc (.cells #[.int .i64 s.nx, .int .i64 s.ny, .int .i64 s.cell, .int .i64 s.slot, .int .i64 s.slots, .int .i64 s.layers, .int .i64 s.most, .slice A7 s.shores.length c7, .slice A8 s.currents.length c8] 25)).alloc (.cells #[.int .i64 v.speed, .int .i64 v.dive, .int .i64 v.use.f0, .int .i64 v.use.f1, .int .i64 v.drift.f0, .int .i64 v.drift.f1, .int .i64 v.reserve] 29)).alloc (.cells #[.int .i64 x.f0.f0, .int .i64 x.f0.f1, .int .i64 x.f1.f0, .int .i64 x.f1.f1] 31)).alloc (.cells #[.int .i64 t] 2)) := (below_alloc (below_alloc (below_alloc (below_alloc (Below.refl w.heap.size w) _) _) _) _)
 have hsz_ : w.heap.size ≤ w.heap.size := Nat.le_refl _
 generalize hW_ : ((((w.alloc (.cells #[.int .i64 s.nx, .int .i64 s.ny, .int .i64 s.cell, .int .i64 s.slot, .int .i64 s.slots, .int .i64 s.layers, .int .i64 s.most, .slice A7 s.shores.length c7, .slice A8 s.currents.length c8] 25)).alloc (.cells #[.int .i64 v.speed, .int .i64 v.dive, .int .i64 v.use.f0, .int .i64 v.use.f1, .int .i64 v.drift.f0, .int .i64 v.drift.f1, .int .i64 v.reserve] 29)).alloc (.cells #[.int .i64 x.f0.f0, .int .i64 x.f0.f1, .int .i64 x.f1.f0, .int .i64 x.f1.f1] 31)).alloc (.cells #[.int .i64 t] 2)) = W1 at m5 m6 m7 m8 mB ⊢
 clear hW_
 generalize hg5 : w.heap.size = g5 at m5 m6 m7 m8 ⊢
 have hG5 : w.heap.size ≤ g5 := by omega
 generalize hg6 : g5 + 1 = g6 at m6 m7 m8 ⊢
 have hn_5_6 : g5 ≠ g6 := by omega
 have hn_6_5 : g6 ≠ g5 := hn_5_6.symm
 have hG6 : w.heap.size ≤ g6 := by omega
 generalize hg7 : g6 + 1 = g7 at m7 m8 ⊢
 have hn_5_7 : g5 ≠ g7 := by omega
 have hn_6_7 : g6 ≠ g7 := by omega
 have hn_7_5 : g7 ≠ g5 := hn_5_7.symm
 have hn_7_6 : g7 ≠ g6 := hn_6_7.symm
 have hG7 : w.heap.size ≤ g7 := by omega
 generalize hg8 : g7 + 1 = g8 at m8 ⊢
 have hn_5_8 : g5 ≠ g8 := by omega
 have hn_6_8 : g6 ≠ g8 := by omega
 have hn_7_8 : g7 ≠ g8 := by omega
 have hn_8_5 : g8 ≠ g5 := hn_5_8.symm
 have hn_8_6 : g8 ≠ g6 := hn_6_8.symm
 have hn_8_7 : g8 ≠ g7 := hn_7_8.symm
 have hG8 : w.heap.size ≤ g8 := by omega
 clear hsz_
 try clear hg8
 try clear hg7
 try clear hg6
 try clear hg5
 have hs_W1 : w.heap.size ≤ W1.heap.size := mB.size
 obtain ⟨c5_0, c5_1, c5_2, c5_3, c5_4, c5_5, c5_6, c5_7, c5_8⟩ := zcs9 m5
 obtain ⟨c6_0, c6_1, c6_2, c6_3, c6_4, c6_5, c6_6⟩ := zcs7 m6
 obtain ⟨c7_0, c7_1, c7_2, c7_3⟩ := zcs4 m7
 have c8_0 := (blk_cell m8 0).trans rfl
 gi_wp2_with fail
 clear c5_0 c5_1 c5_2 c5_3 c5_4 c5_5 c5_6 c5_7 c5_8 c6_0 c6_1 c6_2 c6_3 c6_4 c6_5 c6_6 c7_0 c7_1 c7_2 c7_3 c8_0
 skip
 have hl_5 := blk_lt m5
 have hl_6 := blk_lt m6
 have hl_7 := blk_lt m7
 have hl_8 := blk_lt m8
 have hcon := begin_any2 s v x t A7 A8 c7 c8 w W1 mB h7 hC7 h8 hC8
 refine ⟨trivial, (callsIn_wide.2 hcon).mono ?_⟩
 clear hcon
 rintro e W2 ⟨ptr, rfl, hb, hpt⟩
 replace m5 := blk_below m5 hb
 replace m6 := blk_below m6 hb
 replace m7 := blk_below m7 hb
 replace m8 := blk_below m8 hb
 replace mB := below_step mB hb
 clear hb
 have hs_W2 : w.heap.size ≤ W2.heap.size := mB.size
 generalize hE_ : beginE s v x t = E0 at *
 have HE0 := Lib.hid hE_
 clear hE_
 by_cases h0 : E0 = 0
 case neg =>
  as_aux_lemma =>
   have HZ := Lib.hid (HX.out.trans (if_pos h0))
   have hd1 : (E0 == 0) = false := beq_eq_false_iff_ne.2 h0
   have hd2 : (E0 != 0) = true := by rw [bne, hd1]; rfl
   clear h0 hpt HX
   gi_wp2
   exact leaves_marks (fun W_ => Below w.heap.size w W_) (fun W_ D_ h hB hD => h.trans (belowK_b (w := w) (Nat.le_refl _) W_ D_ _ _ hB hD rfl rfl)) (fun W_ h => ⟨_, results_tmp rfl _ _ _, zq16, h⟩) [] _ (Marks.nil _ _) (by repeat (first | exact mB | apply below_alloc))
 case pos =>
  as_aux_lemma =>
   have HX2 := Lib.hid (HX.out.trans (if_neg (fun h => h h0)))
   clear HX
   have hb0 := HBG.out.symm.trans h0
   obtain ⟨ht0, hp0⟩ := ite_ne_zero hb0
   obtain ⟨hbx, htt0, htt1⟩ := place_ok hp0
   obtain ⟨hSV, hVN⟩ := tripE_ok ht0
   rcases hpt with ⟨_, g, rfl, hg, hT, hTT⟩ | ⟨hbad, _⟩
   case inr => exact absurd ht0 hbad
   case inl =>
    subst h0
    clear hb0 ht0 hp0 HBG
    obtain ⟨B7, d7, B8, d8, mT, _⟩ := hT
    have hTA : ∀ W', Below w.heap.size w W' → Blk W' g #[.int .i64 s.nx, .int .i64 s.ny, .int .i64 s.cell, .int .i64 s.slot, .int .i64 s.slots, .int .i64 s.layers, .int .i64 s.most, .slice B7 s.shores.length d7, .slice B8 s.currents.length d8, .int .i64 v.speed, .int .i64 v.dive, .int .i64 v.use.f0, .int .i64 v.use.f1, .int .i64 v.drift.f0, .int .i64 v.drift.f1, .int .i64 v.reserve] 110 → TripAt W' g s v := fun W' h1 h2 => hTT W' h1 (h2.trans mT.symm)
    have HTA := Lib.hid hTA
    clear hTA hTT
    have hn_T_5 : g ≠ g5 := by omega
    have hn_5_T := hn_T_5.symm
    have hn_T_6 : g ≠ g6 := by omega
    have hn_6_T := hn_T_6.symm
    have hn_T_7 : g ≠ g7 := by omega
    have hn_7_T := hn_T_7.symm
    have hn_T_8 : g ≠ g8 := by omega
    have hn_8_T := hn_T_8.symm
    have hGT : w.heap.size ≤ g := by omega
    clear hl_5 hl_6 hl_7 hl_8 hg
    gi_wp2_with fail
    skip
    have hl_5 := blk_lt m5
    have hl_6 := blk_lt m6
    have hl_7 := blk_lt m7
    have hl_8 := blk_lt m8
    have hl_T := blk_lt mT
    have m11 : Blk (W2.alloc (.cells #[.pointer (some ⟨g, 0, none⟩)] 104)) (W2.heap.size) #[.pointer (some ⟨g, 0, none⟩)] 104 := (by have h_ := blk_new W2 (.cells #[.pointer (some ⟨g, 0, none⟩)] 104); first | exact h_ | (simp only [World.size_alloc] at h_; exact h_))
    replace m5 : Blk (W2.alloc (.cells #[.pointer (some ⟨g, 0, none⟩)] 104)) g5 #[.int .i64 s.nx, .int .i64 s.ny, .int .i64 s.cell, .int .i64 s.slot, .int .i64 s.slots, .int .i64 s.layers, .int .i64 s.most, .slice A7 s.shores.length c7, .slice A8 s.currents.length c8] 25 := (blk_alloc m5 _)
    replace m6 : Blk (W2.alloc (.cells #[.pointer (some ⟨g, 0, none⟩)] 104)) g6 #[.int .i64 v.speed, .int .i64 v.dive, .int .i64 v.use.f0, .int .i64 v.use.f1, .int .i64 v.drift.f0, .int .i64 v.drift.f1, .int .i64 v.reserve] 29 := (blk_alloc m6 _)
    replace m7 : Blk (W2.alloc (.cells #[.pointer (some ⟨g, 0, none⟩)] 104)) g7 #[.int .i64 x.f0.f0, .int .i64 x.f0.f1, .int .i64 x.f1.f0, .int .i64 x.f1.f1] 31 := (blk_alloc m7 _)
    replace m8 : Blk (W2.alloc (.cells #[.pointer (some ⟨g, 0, none⟩)] 104)) g8 #[.int .i64 t] 2 := (blk_alloc m8 _)
    replace mT : Blk (W2.alloc (.cells #[.pointer (some ⟨g, 0, none⟩)] 104)) g #[.int .i64 s.nx, .int .i64 s.ny, .int .i64 s.cell, .int .i64 s.slot, .int .i64 s.slots, .int .i64 s.layers, .int .i64 s.most, .slice B7 s.shores.length d7, .slice B8 s.currents.length d8, .int .i64 v.speed, .int .i64 v.dive, .int .i64 v.use.f0, .int .i64 v.use.f1, .int .i64 v.drift.f0, .int .i64 v.drift.f1, .int .i64 v.reserve] 110 := (blk_alloc mT _)
    replace mB : Below w.heap.size w (W2.alloc (.cells #[.pointer (some ⟨g, 0, none⟩)] 104)) := (below_alloc mB _)
    have hsz_ : w.heap.size ≤ W2.heap.size := hs_W2
    generalize hW_ : (W2.alloc (.cells #[.pointer (some ⟨g, 0, none⟩)] 104)) = W3 at m5 m6 m7 m8 mT m11 mB ⊢
    clear hW_
    generalize hg11 : W2.heap.size = g11 at m11 ⊢
    have hn_5_11 : g5 ≠ g11 := by omega
    have hn_6_11 : g6 ≠ g11 := by omega
    have hn_7_11 : g7 ≠ g11 := by omega
    have hn_8_11 : g8 ≠ g11 := by omega
    have hn_T_11 : g ≠ g11 := by omega
    have hn_11_5 : g11 ≠ g5 := hn_5_11.symm
    have hn_11_6 : g11 ≠ g6 := hn_6_11.symm
    have hn_11_7 : g11 ≠ g7 := hn_7_11.symm
    have hn_11_8 : g11 ≠ g8 := hn_8_11.symm
    have hn_11_T : g11 ≠ g := hn_T_11.symm
    have hG11 : w.heap.size ≤ g11 := by omega
    clear hsz_ hl_5 hl_6 hl_7 hl_8 hl_T
    try clear hg11
    have hs_W3 : w.heap.size ≤ W3.heap.size := mB.size
    have hcon := boxes_any A c l W3 (Kd.C_below hC mB) hc
    refine ⟨trivial, (callsIn_wide.2 hcon).mono ?_⟩
    clear hcon
    rintro e W4 ⟨rfl, hb⟩
    replace m5 := blk_below m5 hb
    replace m6 := blk_below m6 hb
    replace m7 := blk_below m7 hb
    replace m8 := blk_below m8 hb
    replace mT := blk_below mT hb
    replace m11 := blk_below m11 hb
    replace mB := below_step mB hb
    clear hb
    have hs_W4 : w.heap.size ≤ W4.heap.size := mB.size
    have hok := fun h => boxesE_ok (l := l) h
    generalize boxesE l = E1 at *
    by_cases h1 : E1 = 0
    case neg =>
     as_aux_lemma =>
      have HZ := Lib.hid (HX2.out.trans (if_pos h1))
      have hd1 : (E1 == 0) = false := beq_eq_false_iff_ne.2 h1
      have hd2 : (E1 != 0) = true := by rw [bne, hd1]; rfl
      clear h1 HX2 hok
      gi_wp2
      exact leaves_marks (fun W_ => Below w.heap.size w W_) (fun W_ D_ h hB hD => h.trans (belowK_b (w := w) (Nat.le_refl _) W_ D_ _ _ hB hD rfl rfl)) (fun W_ h => ⟨_, results_tmp rfl _ _ _, zq16, h⟩) [] _ (Marks.nil _ _) (by repeat (first | exact mB | apply below_alloc))
    case pos =>
     as_aux_lemma =>
      have HX3 := Lib.hid (HX2.out.trans (if_neg (fun h => h h1)))
      clear HX2
      have HBX := Lib.hid (hok h1)
      clear hok
      subst h1
      gi_wp2_with fail
      skip
      have hl_5 := blk_lt m5
      have hl_6 := blk_lt m6
      have hl_7 := blk_lt m7
      have hl_8 := blk_lt m8
      have hl_T := blk_lt mT
      have hl_11 := blk_lt m11
      have m14 : Blk (W4.alloc (.cells #[.int .i64 0] 36)) (W4.heap.size) #[.int .i64 0] 36 := (by have h_ := blk_new W4 (.cells #[.int .i64 0] 36); first | exact h_ | (simp only [World.size_alloc] at h_; exact h_))
      replace m5 : Blk (W4.alloc (.cells #[.int .i64 0] 36)) g5 #[.int .i64 s.nx, .int .i64 s.ny, .int .i64 s.cell, .int .i64 s.slot, .int .i64 s.slots, .int .i64 s.layers, .int .i64 s.most, .slice A7 s.shores.length c7, .slice A8 s.currents.length c8] 25 := (blk_alloc m5 _)
      replace m6 : Blk (W4.alloc (.cells #[.int .i64 0] 36)) g6 #[.int .i64 v.speed, .int .i64 v.dive, .int .i64 v.use.f0, .int .i64 v.use.f1, .int .i64 v.drift.f0, .int .i64 v.drift.f1, .int .i64 v.reserve] 29 := (blk_alloc m6 _)
      replace m7 : Blk (W4.alloc (.cells #[.int .i64 0] 36)) g7 #[.int .i64 x.f0.f0, .int .i64 x.f0.f1, .int .i64 x.f1.f0, .int .i64 x.f1.f1] 31 := (blk_alloc m7 _)
      replace m8 : Blk (W4.alloc (.cells #[.int .i64 0] 36)) g8 #[.int .i64 t] 2 := (blk_alloc m8 _)
      replace mT : Blk (W4.alloc (.cells #[.int .i64 0] 36)) g #[.int .i64 s.nx, .int .i64 s.ny, .int .i64 s.cell, .int .i64 s.slot, .int .i64 s.slots, .int .i64 s.layers, .int .i64 s.most, .slice B7 s.shores.length d7, .slice B8 s.currents.length d8, .int .i64 v.speed, .int .i64 v.dive, .int .i64 v.use.f0, .int .i64 v.use.f1, .int .i64 v.drift.f0, .int .i64 v.drift.f1, .int .i64 v.reserve] 110 := (blk_alloc mT _)
      replace m11 : Blk (W4.alloc (.cells #[.int .i64 0] 36)) g11 #[.pointer (some ⟨g, 0, none⟩)] 104 := (blk_alloc m11 _)
      replace mB : Below w.heap.size w (W4.alloc (.cells #[.int .i64 0] 36)) := (below_alloc mB _)
      have hsz_ : w.heap.size ≤ W4.heap.size := hs_W4
      generalize hW_ : (W4.alloc (.cells #[.int .i64 0] 36)) = W5 at m5 m6 m7 m8 mT m11 m14 mB ⊢
      clear hW_
      generalize hg14 : W4.heap.size = g14 at m14 ⊢
      have hn_5_14 : g5 ≠ g14 := by omega
      have hn_6_14 : g6 ≠ g14 := by omega
      have hn_7_14 : g7 ≠ g14 := by omega
      have hn_8_14 : g8 ≠ g14 := by omega
      have hn_T_14 : g ≠ g14 := by omega
      have hn_11_14 : g11 ≠ g14 := by omega
      have hn_14_5 : g14 ≠ g5 := hn_5_14.symm
      have hn_14_6 : g14 ≠ g6 := hn_6_14.symm
      have hn_14_7 : g14 ≠ g7 := hn_7_14.symm
      have hn_14_8 : g14 ≠ g8 := hn_8_14.symm
      have hn_14_T : g14 ≠ g := hn_T_14.symm
      have hn_14_11 : g14 ≠ g11 := hn_11_14.symm
      have hG14 : w.heap.size ≤ g14 := by omega
      clear hsz_ hl_5 hl_6 hl_7 hl_8 hl_T hl_11
      try clear hg14
      have hs_W5 : w.heap.size ≤ W5.heap.size := mB.size
      refine wpIn_loop (fun a_ W => ∃ (k : Nat) (X : S31) (T : Int) (a : Int) (Ds : List Nat) (u_ : Nat → Value), a_ = { tmps := #[(u_ 0), (u_ 1), (u_ 2), (u_ 3), (u_ 4), (u_ 5), .pointer (some ⟨g6, 0, none⟩), .pointer (some ⟨g7, 0, none⟩), .pointer (some ⟨g8, 0, none⟩), (u_ 9), (u_ 10), .pointer (some ⟨g11, 0, none⟩), (u_ 12), (u_ 13), .pointer (some ⟨g14, 0, none⟩), (u_ 15), (u_ 16), (u_ 17), (u_ 18), (u_ 19), (u_ 20), (u_ 21), (u_ 22), (u_ 23), (u_ 24), (u_ 25), (u_ 26), (u_ 27), (u_ 28), (u_ 29), (u_ 30), (u_ 31), (u_ 32), (u_ 33), (u_ 34), (u_ 35), .slice A l.length c, .int .i64 (l.length : Int), .int .i64 (k : Int), (u_ 39), (u_ 40), (u_ 41), (u_ 42), (u_ 43), (u_ 44), (u_ 45), (u_ 46), (u_ 47), (u_ 48), (u_ 49), (u_ 50), (u_ 51), (u_ 52), (u_ 53), (u_ 54), (u_ 55), (u_ 56), (u_ 57), (u_ 58), (u_ 59), (u_ 60), (u_ 61), (u_ 62), (u_ 63), (u_ 64), (u_ 65), (u_ 66), (u_ 67), (u_ 68), (u_ 69), (u_ 70)], defers := Ds.map mark } ∧ k ≤ l.length ∧ Hid (CkX s v x t l = ckI s v (l.drop k) X T a) ∧ Hid (BoxOK X ∧ 0 ≤ T ∧ T ≤ 1073741824 + (k : Int) * 131072) ∧ Marks W w.heap.size Ds ∧ Blk W g6 #[.int .i64 v.speed, .int .i64 v.dive, .int .i64 v.use.f0, .int .i64 v.use.f1, .int .i64 v.drift.f0, .int .i64 v.drift.f1, .int .i64 v.reserve] 29 ∧ Blk W g7 #[.int .i64 X.f0.f0, .int .i64 X.f0.f1, .int .i64 X.f1.f0, .int .i64 X.f1.f1] 31 ∧ Blk W g8 #[.int .i64 T] 2 ∧ Blk W g11 #[.pointer (some ⟨g, 0, none⟩)] 104 ∧ Blk W g14 #[.int .i64 a] 36 ∧ Blk W g #[.int .i64 s.nx, .int .i64 s.ny, .int .i64 s.cell, .int .i64 s.slot, .int .i64 s.slots, .int .i64 s.layers, .int .i64 s.most, .slice B7 s.shores.length d7, .slice B8 s.currents.length d8, .int .i64 v.speed, .int .i64 v.dive, .int .i64 v.use.f0, .int .i64 v.use.f1, .int .i64 v.drift.f0, .int .i64 v.drift.f1, .int .i64 v.reserve] 110 ∧ Below w.heap.size w W) (fun a_ _ => ((l.length : Int) - intOf (a_.tmps.getD 38 undef)).toNat) ⟨0, x, t, 0, [], (fun k_ => (#[.agg #[.int .i64 s.nx, .int .i64 s.ny, .int .i64 s.cell, .int .i64 s.slot, .int .i64 s.slots, .int .i64 s.layers, .int .i64 s.most, .slice A7 s.shores.length c7, .slice A8 s.currents.length c8], .agg #[.int .i64 v.speed, .int .i64 v.dive, .int .i64 v.use.f0, .int .i64 v.use.f1, .int .i64 v.drift.f0, .int .i64 v.drift.f1, .int .i64 v.reserve], .agg #[.int .i64 x.f0.f0, .int .i64 x.f0.f1, .int .i64 x.f1.f0, .int .i64 x.f1.f1], .int .i64 t, .slice A l.length c, .pointer (some ⟨g5, 0, none⟩), .pointer (some ⟨g6, 0, none⟩), .pointer (some ⟨g7, 0, none⟩), .pointer (some ⟨g8, 0, none⟩), undef, .int .i64 0, .pointer (some ⟨g11, 0, none⟩), .int .i64 0, .int .i64 0, .pointer (some ⟨g14, 0, none⟩), undef, undef, undef, undef, undef, .tuple #[.pointer (some ⟨g, 0, none⟩), .int .i64 0], .agg #[.int .i64 s.nx, .int .i64 s.ny, .int .i64 s.cell, .int .i64 s.slot, .int .i64 s.slots, .int .i64 s.layers, .int .i64 s.most, .slice A7 s.shores.length c7, .slice A8 s.currents.length c8], .agg #[.int .i64 v.speed, .int .i64 v.dive, .int .i64 v.use.f0, .int .i64 v.use.f1, .int .i64 v.drift.f0, .int .i64 v.drift.f1, .int .i64 v.reserve], .agg #[.int .i64 x.f0.f0, .int .i64 x.f0.f1, .int .i64 x.f1.f0, .int .i64 x.f1.f1], .int .i64 t, .tuple #[.pointer (some ⟨g, 0, none⟩), .int .i64 0], .pointer (some ⟨g, 0, none⟩), .int .i64 0, .int .i64 0, .bool false, undef, .slice A l.length c, .int .i64 0, .int .i64 0, .bool false, undef, .slice A l.length c, .int .i64 (l.length : Int), .int .i64 0, undef, undef, undef, undef, undef, undef, undef, undef, undef, undef, undef, undef, undef, undef, undef, undef, undef, undef, undef, undef, undef, undef, undef, undef, undef, undef, undef, undef, undef, undef, undef, undef] : Array Value).getD k_ undef), rfl, Nat.zero_le _, HX3, Lib.hid ⟨hbx, htt0, by omega⟩, Marks.nil _ _, m6, m7, m8, m11, m14, mT, mB⟩ ?_
      clear m5 m6 m7 m8 m11 m14 mT mB hbx htt0 htt1 HX3
      rintro a_ W ⟨k, X, T, a, Ds, u_, rfl, hk, HR, HQ, hM, m6, m7, m8, m11, m14, mT, mB⟩
      have hs_W : w.heap.size ≤ W.heap.size := mB.size
      skip
      by_cases hlt : k < l.length
      case neg =>
       as_aux_lemma =>
        obtain rfl : k = l.length := by omega
        have HE := HR.out
        rw [List.drop_length] at HE
        have HZ : Hid (CkX s v x t l = a) := Lib.hid HE
        clear HE HR HQ
        have hnl : ¬ ((l.length : Int) < (l.length : Int)) := by omega
        have c14 := (blk_cell m14 0).trans rfl
        gi_wp2
        exact leaves_marks (fun W_ => Below w.heap.size w W_) (fun W_ D_ h hB hD => h.trans (belowK_b (w := w) (Nat.le_refl _) W_ D_ _ _ hB hD rfl rfl)) (fun W_ h => ⟨_, results_tmp rfl _ _ _, zq16, h⟩) Ds _ hM mB
      case pos =>
       as_aux_lemma =>
        obtain ⟨ad_, e_, hx0, hx1, hx2, hx3⟩ := at_T31 hC k (by omega) (by omega)
        cases e_
        simp only [Int.toNat_natCast] at hx0 hx1 hx2 hx3
        replace hx0 := (mB.cell (World.block_lt_of_cell? w _ hx0)).trans hx0
        replace hx1 := (mB.cell (World.block_lt_of_cell? w _ hx1)).trans hx1
        replace hx2 := (mB.cell (World.block_lt_of_cell? w _ hx2)).trans hx2
        replace hx3 := (mB.cell (World.block_lt_of_cell? w _ hx3)).trans hx3
        have hdr : l.drop k = rd_T31 l (k : Int) :: l.drop (k + 1) := by rw [List.drop_eq_getElem_cons hlt]; simp [rd_T31, List.getD_eq_getElem?_getD, hlt]
        have hmem : rd_T31 l (k : Int) ∈ l := List.mem_of_getElem? (i := k) (by simp [rd_T31, List.getD_eq_getElem?_getD, hlt])
        have hto := HBX.out.2 _ hmem
        clear hmem
        generalize rd_T31 l (k : Int) = to_ at *
        obtain ⟨hX, hT0, hT1⟩ := HQ.out
        have hl64 := HBX.out.1
        have hdv := hVN.dive
        have HDV := Lib.hid hdv
        have HR2 : Hid (CkX s v x t l = if reachE s v X T ≠ 0 then reachE s v X T else ckI s v (l.drop (k + 1)) to_ (T + v.dive) (insAll s v X T to_ a)) := Lib.hid (by rw [HR.out, hdr]; rfl)
        clear HR hdr
        have hkk : ((k : Int) < (l.length : Int)) := by omega
        have kR := fun W (h : TripAt W g s v) => reach_any g s v X T W h hSV.n hVN hX.1 hT0 (by omega)
        have hro := fun h => reach_ok (t := T) hSV.n hVN hX h
        have HV : Hid (reachE s v X T = 0 → reachV s v X T = grownI s v X) := Lib.hid (fun h => if_pos h)
        have HXS : Hid (BoxOK X ∧ BoxOK to_) := Lib.hid ⟨hX, hto⟩
        have HL := Lib.hid hl64
        clear hdv hX hto hl64
        have c7_0 : ∀ o_, (W.alloc o_).cell? ⟨g7, 0, none⟩ = some (.int .i64 X.f0.f0) := fun o_ => (blk_cell (blk_alloc m7 o_) 0).trans rfl
        have c7_1 : ∀ o_, (W.alloc o_).cell? ⟨g7, 1, none⟩ = some (.int .i64 X.f0.f1) := fun o_ => (blk_cell (blk_alloc m7 o_) 1).trans rfl
        have c7_2 : ∀ o_, (W.alloc o_).cell? ⟨g7, 2, none⟩ = some (.int .i64 X.f1.f0) := fun o_ => (blk_cell (blk_alloc m7 o_) 2).trans rfl
        have c7_3 : ∀ o_, (W.alloc o_).cell? ⟨g7, 3, none⟩ = some (.int .i64 X.f1.f1) := fun o_ => (blk_cell (blk_alloc m7 o_) 3).trans rfl
        have c8_0 : ∀ o_, (W.alloc o_).cell? ⟨g8, 0, none⟩ = some (.int .i64 T) := fun o_ => (blk_cell (blk_alloc m8 o_) 0).trans rfl
        have c11_0 : ∀ o_, (W.alloc o_).cell? ⟨g11, 0, none⟩ = some (.pointer (some ⟨g, 0, none⟩)) := fun o_ => (blk_cell (blk_alloc m11 o_) 0).trans rfl
        gi_wp2_with fail
        skip
        clear c7_0 c7_1 c7_2 c7_3 c8_0 c11_0
        clear hkk hx0 hx1 hx2 hx3
        replace hM := hM.below (below_alloc (Below.refl W.heap.size W) (.cells #[.int .i64 to_.f0.f0, .int .i64 to_.f0.f1, .int .i64 to_.f1.f0, .int .i64 to_.f1.f1] 31))
        have hl_6 := blk_lt m6
        have hl_7 := blk_lt m7
        have hl_8 := blk_lt m8
        have hl_11 := blk_lt m11
        have hl_14 := blk_lt m14
        have hl_T := blk_lt mT
        have m16 : Blk (W.alloc (.cells #[.int .i64 to_.f0.f0, .int .i64 to_.f0.f1, .int .i64 to_.f1.f0, .int .i64 to_.f1.f1] 31)) (W.heap.size) #[.int .i64 to_.f0.f0, .int .i64 to_.f0.f1, .int .i64 to_.f1.f0, .int .i64 to_.f1.f1] 31 := (by have h_ := blk_new W (.cells #[.int .i64 to_.f0.f0, .int .i64 to_.f0.f1, .int .i64 to_.f1.f0, .int .i64 to_.f1.f1] 31); first | exact h_ | (simp only [World.size_alloc] at h_; exact h_))
        replace m6 : Blk (W.alloc (.cells #[.int .i64 to_.f0.f0, .int .i64 to_.f0.f1, .int .i64 to_.f1.f0, .int .i64 to_.f1.f1] 31)) g6 #[.int .i64 v.speed, .int .i64 v.dive, .int .i64 v.use.f0, .int .i64 v.use.f1, .int .i64 v.drift.f0, .int .i64 v.drift.f1, .int .i64 v.reserve] 29 := (blk_alloc m6 _)
        replace m7 : Blk (W.alloc (.cells #[.int .i64 to_.f0.f0, .int .i64 to_.f0.f1, .int .i64 to_.f1.f0, .int .i64 to_.f1.f1] 31)) g7 #[.int .i64 X.f0.f0, .int .i64 X.f0.f1, .int .i64 X.f1.f0, .int .i64 X.f1.f1] 31 := (blk_alloc m7 _)
        replace m8 : Blk (W.alloc (.cells #[.int .i64 to_.f0.f0, .int .i64 to_.f0.f1, .int .i64 to_.f1.f0, .int .i64 to_.f1.f1] 31)) g8 #[.int .i64 T] 2 := (blk_alloc m8 _)
        replace m11 : Blk (W.alloc (.cells #[.int .i64 to_.f0.f0, .int .i64 to_.f0.f1, .int .i64 to_.f1.f0, .int .i64 to_.f1.f1] 31)) g11 #[.pointer (some ⟨g, 0, none⟩)] 104 := (blk_alloc m11 _)
        replace m14 : Blk (W.alloc (.cells #[.int .i64 to_.f0.f0, .int .i64 to_.f0.f1, .int .i64 to_.f1.f0, .int .i64 to_.f1.f1] 31)) g14 #[.int .i64 a] 36 := (blk_alloc m14 _)
        replace mT : Blk (W.alloc (.cells #[.int .i64 to_.f0.f0, .int .i64 to_.f0.f1, .int .i64 to_.f1.f0, .int .i64 to_.f1.f1] 31)) g #[.int .i64 s.nx, .int .i64 s.ny, .int .i64 s.cell, .int .i64 s.slot, .int .i64 s.slots, .int .i64 s.layers, .int .i64 s.most, .slice B7 s.shores.length d7, .slice B8 s.currents.length d8, .int .i64 v.speed, .int .i64 v.dive, .int .i64 v.use.f0, .int .i64 v.use.f1, .int .i64 v.drift.f0, .int .i64 v.drift.f1, .int .i64 v.reserve] 110 := (blk_alloc mT _)
        replace mB : Below w.heap.size w (W.alloc (.cells #[.int .i64 to_.f0.f0, .int .i64 to_.f0.f1, .int .i64 to_.f1.f0, .int .i64 to_.f1.f1] 31)) := (below_alloc mB _)
        have hsz_ : w.heap.size ≤ W.heap.size := hs_W
        generalize hW_ : (W.alloc (.cells #[.int .i64 to_.f0.f0, .int .i64 to_.f0.f1, .int .i64 to_.f1.f0, .int .i64 to_.f1.f1] 31)) = Wa at m6 m7 m8 m11 m14 mT m16 mB hM ⊢
        clear hW_
        generalize hg16 : W.heap.size = g16 at m16 ⊢
        have hn_6_16 : g6 ≠ g16 := by omega
        have hn_7_16 : g7 ≠ g16 := by omega
        have hn_8_16 : g8 ≠ g16 := by omega
        have hn_11_16 : g11 ≠ g16 := by omega
        have hn_14_16 : g14 ≠ g16 := by omega
        have hn_T_16 : g ≠ g16 := by omega
        have hn_16_6 : g16 ≠ g6 := hn_6_16.symm
        have hn_16_7 : g16 ≠ g7 := hn_7_16.symm
        have hn_16_8 : g16 ≠ g8 := hn_8_16.symm
        have hn_16_11 : g16 ≠ g11 := hn_11_16.symm
        have hn_16_14 : g16 ≠ g14 := hn_14_16.symm
        have hn_16_T : g16 ≠ g := hn_T_16.symm
        have hG16 : w.heap.size ≤ g16 := by omega
        clear hsz_ hl_6 hl_7 hl_8 hl_11 hl_14 hl_T
        try clear hg16
        have hs_Wa : w.heap.size ≤ Wa.heap.size := mB.size
        have hcon := kR Wa (HTA.out _ mB mT)
        refine ⟨trivial, (callsIn_wide.2 hcon).mono ?_⟩
        clear hcon
        rintro e Wb ⟨rfl, hb⟩
        replace hM := hM.below hb
        replace m6 := blk_below m6 hb
        replace m7 := blk_below m7 hb
        replace m8 := blk_below m8 hb
        replace m11 := blk_below m11 hb
        replace m14 := blk_below m14 hb
        replace mT := blk_below mT hb
        replace m16 := blk_below m16 hb
        replace mB := below_step mB hb
        clear hb
        have hs_Wb : w.heap.size ≤ Wb.heap.size := mB.size
        clear kR
        generalize reachE s v X T = E at *
        generalize reachV s v X T = G at *
        by_cases hE : E = 0
        case neg =>
         as_aux_lemma =>
          have HZ := Lib.hid (HR2.out.trans (if_pos hE))
          have hd1 : (E == 0) = false := beq_eq_false_iff_ne.2 hE
          have hd2 : (E != 0) = true := by rw [bne, hd1]; rfl
          clear hE HR2 hro
          gi_wp2
          exact leaves_marks (fun W_ => Below w.heap.size w W_) (fun W_ D_ h hB hD => h.trans (belowK_b (w := w) (Nat.le_refl _) W_ D_ _ _ hB hD rfl rfl)) (fun W_ h => ⟨_, results_tmp rfl _ _ _, zq16, h⟩) Ds _ (hM.below (below_alloc (Below.refl _ _) _)) (below_alloc mB _)
        case pos =>
         as_aux_lemma =>
          have HR3 := Lib.hid (HR2.out.trans (if_neg (fun h => h hE)))
          obtain ⟨hin, ⟨_, htd⟩, _⟩ := hro hE
          have hG := HV.out hE
          clear HR2 hro HV
          subst hE
          subst hG
          have hla := hSV.n.layers
          have kE := fun W hd layer (h : TripAt W g s v) (h0 : 0 ≤ hd) (h1 : hd ≤ 8) (h2 : 0 ≤ layer) (h3 : layer < s.layers) => ends_any g s v X (grownI s v X) T hd layer W h hSV.n hVN hSV.cu hSV.cb HXS.out.1.1 hin hT0 htd h0 h1 h2 h3
          have HST : Hid (insAll s v X T to_ a = insF s v X (grownI s v X) T to_ a (crsL s)) := Lib.hid rfl
          generalize insAll s v X T to_ a = a2 at *
          generalize grownI s v X = G at *
          have c7_0 : ∀ o_, (Wb.alloc o_).cell? ⟨g7, 0, none⟩ = some (.int .i64 X.f0.f0) := fun o_ => (blk_cell (blk_alloc m7 o_) 0).trans rfl
          have c7_1 : ∀ o_, (Wb.alloc o_).cell? ⟨g7, 1, none⟩ = some (.int .i64 X.f0.f1) := fun o_ => (blk_cell (blk_alloc m7 o_) 1).trans rfl
          have c7_2 : ∀ o_, (Wb.alloc o_).cell? ⟨g7, 2, none⟩ = some (.int .i64 X.f1.f0) := fun o_ => (blk_cell (blk_alloc m7 o_) 2).trans rfl
          have c7_3 : ∀ o_, (Wb.alloc o_).cell? ⟨g7, 3, none⟩ = some (.int .i64 X.f1.f1) := fun o_ => (blk_cell (blk_alloc m7 o_) 3).trans rfl
          have c8_0 : ∀ o_, (Wb.alloc o_).cell? ⟨g8, 0, none⟩ = some (.int .i64 T) := fun o_ => (blk_cell (blk_alloc m8 o_) 0).trans rfl
          have c11_0 : ∀ o_, (Wb.alloc o_).cell? ⟨g11, 0, none⟩ = some (.pointer (some ⟨g, 0, none⟩)) := fun o_ => (blk_cell (blk_alloc m11 o_) 0).trans rfl
          gi_wp2_with fail
          clear c7_0 c7_1 c7_2 c7_3 c8_0 c11_0
          skip
          replace hM := hM.below (below_alloc (Below.refl Wb.heap.size Wb) (.cells #[.int .i64 G.f0.f0, .int .i64 G.f0.f1, .int .i64 G.f1.f0, .int .i64 G.f1.f1] 31))
          have hl_6 := blk_lt m6
          have hl_7 := blk_lt m7
          have hl_8 := blk_lt m8
          have hl_11 := blk_lt m11
          have hl_14 := blk_lt m14
          have hl_T := blk_lt mT
          have hl_16 := blk_lt m16
          have m17 : Blk (Wb.alloc (.cells #[.int .i64 G.f0.f0, .int .i64 G.f0.f1, .int .i64 G.f1.f0, .int .i64 G.f1.f1] 31)) (Wb.heap.size) #[.int .i64 G.f0.f0, .int .i64 G.f0.f1, .int .i64 G.f1.f0, .int .i64 G.f1.f1] 31 := (by have h_ := blk_new Wb (.cells #[.int .i64 G.f0.f0, .int .i64 G.f0.f1, .int .i64 G.f1.f0, .int .i64 G.f1.f1] 31); first | exact h_ | (simp only [World.size_alloc] at h_; exact h_))
          replace m6 : Blk (Wb.alloc (.cells #[.int .i64 G.f0.f0, .int .i64 G.f0.f1, .int .i64 G.f1.f0, .int .i64 G.f1.f1] 31)) g6 #[.int .i64 v.speed, .int .i64 v.dive, .int .i64 v.use.f0, .int .i64 v.use.f1, .int .i64 v.drift.f0, .int .i64 v.drift.f1, .int .i64 v.reserve] 29 := (blk_alloc m6 _)
          replace m7 : Blk (Wb.alloc (.cells #[.int .i64 G.f0.f0, .int .i64 G.f0.f1, .int .i64 G.f1.f0, .int .i64 G.f1.f1] 31)) g7 #[.int .i64 X.f0.f0, .int .i64 X.f0.f1, .int .i64 X.f1.f0, .int .i64 X.f1.f1] 31 := (blk_alloc m7 _)
          replace m8 : Blk (Wb.alloc (.cells #[.int .i64 G.f0.f0, .int .i64 G.f0.f1, .int .i64 G.f1.f0, .int .i64 G.f1.f1] 31)) g8 #[.int .i64 T] 2 := (blk_alloc m8 _)
          replace m11 : Blk (Wb.alloc (.cells #[.int .i64 G.f0.f0, .int .i64 G.f0.f1, .int .i64 G.f1.f0, .int .i64 G.f1.f1] 31)) g11 #[.pointer (some ⟨g, 0, none⟩)] 104 := (blk_alloc m11 _)
          replace m14 : Blk (Wb.alloc (.cells #[.int .i64 G.f0.f0, .int .i64 G.f0.f1, .int .i64 G.f1.f0, .int .i64 G.f1.f1] 31)) g14 #[.int .i64 a] 36 := (blk_alloc m14 _)
          replace mT : Blk (Wb.alloc (.cells #[.int .i64 G.f0.f0, .int .i64 G.f0.f1, .int .i64 G.f1.f0, .int .i64 G.f1.f1] 31)) g #[.int .i64 s.nx, .int .i64 s.ny, .int .i64 s.cell, .int .i64 s.slot, .int .i64 s.slots, .int .i64 s.layers, .int .i64 s.most, .slice B7 s.shores.length d7, .slice B8 s.currents.length d8, .int .i64 v.speed, .int .i64 v.dive, .int .i64 v.use.f0, .int .i64 v.use.f1, .int .i64 v.drift.f0, .int .i64 v.drift.f1, .int .i64 v.reserve] 110 := (blk_alloc mT _)
          replace m16 : Blk (Wb.alloc (.cells #[.int .i64 G.f0.f0, .int .i64 G.f0.f1, .int .i64 G.f1.f0, .int .i64 G.f1.f1] 31)) g16 #[.int .i64 to_.f0.f0, .int .i64 to_.f0.f1, .int .i64 to_.f1.f0, .int .i64 to_.f1.f1] 31 := (blk_alloc m16 _)
          replace mB : Below w.heap.size w (Wb.alloc (.cells #[.int .i64 G.f0.f0, .int .i64 G.f0.f1, .int .i64 G.f1.f0, .int .i64 G.f1.f1] 31)) := (below_alloc mB _)
          have hsz_ : w.heap.size ≤ Wb.heap.size := hs_Wb
          generalize hW_ : (Wb.alloc (.cells #[.int .i64 G.f0.f0, .int .i64 G.f0.f1, .int .i64 G.f1.f0, .int .i64 G.f1.f1] 31)) = Wc at m6 m7 m8 m11 m14 mT m16 m17 mB hM ⊢
          clear hW_
          generalize hg17 : Wb.heap.size = g17 at m17 ⊢
          have hn_6_17 : g6 ≠ g17 := by omega
          have hn_7_17 : g7 ≠ g17 := by omega
          have hn_8_17 : g8 ≠ g17 := by omega
          have hn_11_17 : g11 ≠ g17 := by omega
          have hn_14_17 : g14 ≠ g17 := by omega
          have hn_T_17 : g ≠ g17 := by omega
          have hn_16_17 : g16 ≠ g17 := by omega
          have hn_17_6 : g17 ≠ g6 := hn_6_17.symm
          have hn_17_7 : g17 ≠ g7 := hn_7_17.symm
          have hn_17_8 : g17 ≠ g8 := hn_8_17.symm
          have hn_17_11 : g17 ≠ g11 := hn_11_17.symm
          have hn_17_14 : g17 ≠ g14 := hn_14_17.symm
          have hn_17_T : g17 ≠ g := hn_T_17.symm
          have hn_17_16 : g17 ≠ g16 := hn_16_17.symm
          have hG17 : w.heap.size ≤ g17 := by omega
          clear hsz_ hl_6 hl_7 hl_8 hl_11 hl_14 hl_T hl_16
          try clear hg17
          have hs_Wc : w.heap.size ≤ Wc.heap.size := mB.size
          have hcon := courses_any g Wc
          refine ⟨trivial, (callsIn_wide.2 hcon).mono ?_⟩
          clear hcon
          rintro e _ ⟨rfl, rfl⟩
          gi_wp2_with fail
          replace hM := hM.below (below_alloc (Below.refl Wc.heap.size Wc) (.cells #[.pointer (some ⟨g, 0, none⟩)] 104))
          have hl_6 := blk_lt m6
          have hl_7 := blk_lt m7
          have hl_8 := blk_lt m8
          have hl_11 := blk_lt m11
          have hl_14 := blk_lt m14
          have hl_T := blk_lt mT
          have hl_16 := blk_lt m16
          have hl_17 := blk_lt m17
          have mP : Blk (Wc.alloc (.cells #[.pointer (some ⟨g, 0, none⟩)] 104)) (Wc.heap.size) #[.pointer (some ⟨g, 0, none⟩)] 104 := (by have h_ := blk_new Wc (.cells #[.pointer (some ⟨g, 0, none⟩)] 104); first | exact h_ | (simp only [World.size_alloc] at h_; exact h_))
          replace m6 : Blk (Wc.alloc (.cells #[.pointer (some ⟨g, 0, none⟩)] 104)) g6 #[.int .i64 v.speed, .int .i64 v.dive, .int .i64 v.use.f0, .int .i64 v.use.f1, .int .i64 v.drift.f0, .int .i64 v.drift.f1, .int .i64 v.reserve] 29 := (blk_alloc m6 _)
          replace m7 : Blk (Wc.alloc (.cells #[.pointer (some ⟨g, 0, none⟩)] 104)) g7 #[.int .i64 X.f0.f0, .int .i64 X.f0.f1, .int .i64 X.f1.f0, .int .i64 X.f1.f1] 31 := (blk_alloc m7 _)
          replace m8 : Blk (Wc.alloc (.cells #[.pointer (some ⟨g, 0, none⟩)] 104)) g8 #[.int .i64 T] 2 := (blk_alloc m8 _)
          replace m11 : Blk (Wc.alloc (.cells #[.pointer (some ⟨g, 0, none⟩)] 104)) g11 #[.pointer (some ⟨g, 0, none⟩)] 104 := (blk_alloc m11 _)
          replace m14 : Blk (Wc.alloc (.cells #[.pointer (some ⟨g, 0, none⟩)] 104)) g14 #[.int .i64 a] 36 := (blk_alloc m14 _)
          replace mT : Blk (Wc.alloc (.cells #[.pointer (some ⟨g, 0, none⟩)] 104)) g #[.int .i64 s.nx, .int .i64 s.ny, .int .i64 s.cell, .int .i64 s.slot, .int .i64 s.slots, .int .i64 s.layers, .int .i64 s.most, .slice B7 s.shores.length d7, .slice B8 s.currents.length d8, .int .i64 v.speed, .int .i64 v.dive, .int .i64 v.use.f0, .int .i64 v.use.f1, .int .i64 v.drift.f0, .int .i64 v.drift.f1, .int .i64 v.reserve] 110 := (blk_alloc mT _)
          replace m16 : Blk (Wc.alloc (.cells #[.pointer (some ⟨g, 0, none⟩)] 104)) g16 #[.int .i64 to_.f0.f0, .int .i64 to_.f0.f1, .int .i64 to_.f1.f0, .int .i64 to_.f1.f1] 31 := (blk_alloc m16 _)
          replace m17 : Blk (Wc.alloc (.cells #[.pointer (some ⟨g, 0, none⟩)] 104)) g17 #[.int .i64 G.f0.f0, .int .i64 G.f0.f1, .int .i64 G.f1.f0, .int .i64 G.f1.f1] 31 := (blk_alloc m17 _)
          replace mB : Below w.heap.size w (Wc.alloc (.cells #[.pointer (some ⟨g, 0, none⟩)] 104)) := (below_alloc mB _)
          have hsz_ : w.heap.size ≤ Wc.heap.size := hs_Wc
          generalize hW_ : (Wc.alloc (.cells #[.pointer (some ⟨g, 0, none⟩)] 104)) = W0 at m6 m7 m8 m11 m14 mT m16 m17 mP mB hM ⊢
          clear hW_
          generalize hgP : Wc.heap.size = gP at mP ⊢
          have hn_6_P : g6 ≠ gP := by omega
          have hn_7_P : g7 ≠ gP := by omega
          have hn_8_P : g8 ≠ gP := by omega
          have hn_11_P : g11 ≠ gP := by omega
          have hn_14_P : g14 ≠ gP := by omega
          have hn_T_P : g ≠ gP := by omega
          have hn_16_P : g16 ≠ gP := by omega
          have hn_17_P : g17 ≠ gP := by omega
          have hn_P_6 : gP ≠ g6 := hn_6_P.symm
          have hn_P_7 : gP ≠ g7 := hn_7_P.symm
          have hn_P_8 : gP ≠ g8 := hn_8_P.symm
          have hn_P_11 : gP ≠ g11 := hn_11_P.symm
          have hn_P_14 : gP ≠ g14 := hn_14_P.symm
          have hn_P_T : gP ≠ g := hn_T_P.symm
          have hn_P_16 : gP ≠ g16 := hn_16_P.symm
          have hn_P_17 : gP ≠ g17 := hn_17_P.symm
          have hGP : w.heap.size ≤ gP := by omega
          clear hsz_ hl_6 hl_7 hl_8 hl_11 hl_14 hl_T hl_16 hl_17
          try clear hgP
          have hs_W0 : w.heap.size ≤ W0.heap.size := mB.size
          skip
          have hDs : ∀ D_ ∈ Ds, D_ < W0.heap.size := fun D_ h => (Array.getElem?_eq_some_iff.1 (hM.2 D_ h).2).1
          have HN : Hid (g6 ≠ g14 ∧ g7 ≠ g14 ∧ g8 ≠ g14 ∧ g11 ≠ g14 ∧ g16 ≠ g14 ∧ g17 ≠ g14 ∧ g ≠ g14 ∧ gP ≠ g14 ∧ g6 ≠ g7 ∧ g8 ≠ g7 ∧ g11 ≠ g7 ∧ g14 ≠ g7 ∧ g ≠ g7 ∧ g16 ≠ g7 ∧ g6 ≠ g8 ∧ g7 ≠ g8 ∧ g11 ≠ g8 ∧ g14 ≠ g8 ∧ g ≠ g8 ∧ g16 ≠ g8) := Lib.hid ⟨hn_6_14, hn_7_14, hn_8_14, hn_11_14, hn_16_14, hn_17_14, hn_T_14, hn_P_14, hn_6_7, hn_8_7, hn_11_7, hn_14_7, hn_T_7, hn_16_7, hn_6_8, hn_7_8, hn_11_8, hn_14_8, hn_T_8, hn_16_8⟩
          try clear hn_T_5 hn_T_6 hn_T_7 hn_T_8 hn_T_11 hn_T_14 hn_T_16 hn_T_17
          try clear hn_T_P
          try clear hn_5_T
          try clear hn_5_6 hn_5_7 hn_5_8 hn_5_11 hn_5_14 hn_5_16 hn_5_17
          try clear hn_5_P
          try clear hn_6_T
          try clear hn_6_5 hn_6_7 hn_6_8 hn_6_11 hn_6_14 hn_6_16 hn_6_17
          try clear hn_6_P
          try clear hn_7_T
          try clear hn_7_5 hn_7_6 hn_7_8 hn_7_11 hn_7_14 hn_7_16 hn_7_17
          try clear hn_7_P
          try clear hn_8_T
          try clear hn_8_5 hn_8_6 hn_8_7 hn_8_11 hn_8_14 hn_8_16 hn_8_17
          try clear hn_8_P
          try clear hn_11_T
          try clear hn_11_5 hn_11_6 hn_11_7 hn_11_8 hn_11_14 hn_11_16 hn_11_17
          try clear hn_11_P
          try clear hn_14_T
          try clear hn_14_5 hn_14_6 hn_14_7 hn_14_8 hn_14_11 hn_14_16 hn_14_17
          try clear hn_14_P
          try clear hn_16_T
          try clear hn_16_5 hn_16_6 hn_16_7 hn_16_8 hn_16_11 hn_16_14 hn_16_17
          try clear hn_16_P
          try clear hn_17_T
          try clear hn_17_5 hn_17_6 hn_17_7 hn_17_8 hn_17_11 hn_17_14 hn_17_16
          try clear hn_17_P
          try clear hn_P_T
          try clear hn_P_5 hn_P_6 hn_P_7 hn_P_8 hn_P_11 hn_P_14 hn_P_16 hn_P_17
          refine wpIn_rangeFunc_ownH rfl (by omega) (gf := 129) (lb := #[.pointer (some ⟨gP, 0, none⟩)]) rfl trivial (enters_of Try.func129 zq5 rfl)
           (encs := fun c : CrsN s => #[.agg #[.int .i64 c.1.f0, .int .i64 c.1.f1]]) (Kp := KpD w g gP #[.int .i64 s.nx, .int .i64 s.ny, .int .i64 s.cell, .int .i64 s.slot, .int .i64 s.slots, .int .i64 s.layers, .int .i64 s.most, .slice B7 s.shores.length d7, .slice B8 s.currents.length d8, .int .i64 v.speed, .int .i64 v.dive, .int .i64 v.use.f0, .int .i64 v.use.f1, .int .i64 v.drift.f0, .int .i64 v.drift.f1, .int .i64 v.reserve]) (S := AllC s) (Sp := PreC s) (N := (crsL s).length) (w0 := W0)
           (fun l J Jx X_ hW hJ _ hY h0 => courses1_in 6 (by omega) l gP g s v (fun W => Below w.heap.size w W ∧ Blk W g #[.int .i64 s.nx, .int .i64 s.ny, .int .i64 s.cell, .int .i64 s.slot, .int .i64 s.slots, .int .i64 s.layers, .int .i64 s.most, .slice B7 s.shores.length d7, .slice B8 s.currents.length d8, .int .i64 v.speed, .int .i64 v.dive, .int .i64 v.use.f0, .int .i64 v.use.f1, .int .i64 v.drift.f0, .int .i64 v.drift.f1, .int .i64 v.reserve] 110 ∧ Blk W gP #[.pointer (some ⟨g, 0, none⟩)] 104) (fun W h => ⟨HTA.out W h.1 h.2.1, h.2.2⟩) hSV.n (KpD w g gP #[.int .i64 s.nx, .int .i64 s.ny, .int .i64 s.cell, .int .i64 s.slot, .int .i64 s.slots, .int .i64 s.layers, .int .i64 s.most, .slice B7 s.shores.length d7, .slice B8 s.currents.length d8, .int .i64 v.speed, .int .i64 v.dive, .int .i64 v.use.f0, .int .i64 v.use.f1, .int .i64 v.drift.f0, .int .i64 v.drift.f1, .int .i64 v.reserve]) (fun A B h hE => ⟨hE.1.trans h.1, h.2.1 hE.2.1, h.2.2 hE.2.2⟩) J Jx hY X_ ⟨below_step mB hW, Blk.belowH mT hW, Blk.belowH mP hW⟩ h0) KpD.trans (KpD.put hs_W0 (blk_lt mT) (blk_lt mP)) (Below.refl _ _) (fun _ => rfl)
           (fun pre W => Blk W g6 #[.int .i64 v.speed, .int .i64 v.dive, .int .i64 v.use.f0, .int .i64 v.use.f1, .int .i64 v.drift.f0, .int .i64 v.drift.f1, .int .i64 v.reserve] 29 ∧ Blk W g7 #[.int .i64 X.f0.f0, .int .i64 X.f0.f1, .int .i64 X.f1.f0, .int .i64 X.f1.f1] 31 ∧ Blk W g8 #[.int .i64 T] 2 ∧ Blk W g11 #[.pointer (some ⟨g, 0, none⟩)] 104 ∧ Blk W g16 #[.int .i64 to_.f0.f0, .int .i64 to_.f0.f1, .int .i64 to_.f1.f0, .int .i64 to_.f1.f1] 31 ∧ Blk W g17 #[.int .i64 G.f0.f0, .int .i64 G.f0.f1, .int .i64 G.f1.f0, .int .i64 G.f1.f1] 31 ∧ Blk W g #[.int .i64 s.nx, .int .i64 s.ny, .int .i64 s.cell, .int .i64 s.slot, .int .i64 s.slots, .int .i64 s.layers, .int .i64 s.most, .slice B7 s.shores.length d7, .slice B8 s.currents.length d8, .int .i64 v.speed, .int .i64 v.dive, .int .i64 v.use.f0, .int .i64 v.use.f1, .int .i64 v.drift.f0, .int .i64 v.drift.f1, .int .i64 v.reserve] 110 ∧ Blk W g14 #[.int .i64 (insF s v X G T to_ a (pre.map Subtype.val))] 36 ∧ Marks W w.heap.size Ds ∧ Below w.heap.size w W)
           (fun c pre W => False)
           (OwnFrom.and (blk_ownFrom _ _ (fun _ => _) _) (OwnFrom.and (blk_ownFrom _ _ (fun _ => _) _) (OwnFrom.and (blk_ownFrom _ _ (fun _ => _) _) (OwnFrom.and (blk_ownFrom _ _ (fun _ => _) _) (OwnFrom.and (blk_ownFrom _ _ (fun _ => _) _) (OwnFrom.and (blk_ownFrom _ _ (fun _ => _) _) (OwnFrom.and (blk_ownFrom _ _ (fun _ => _) _) (OwnFrom.and (blk_ownFrom _ _ (fun pre : List (CrsN s) => #[.int .i64 (insF s v X G T to_ a (pre.map Subtype.val))]) _) (OwnFrom.and (marks_ownFrom _ _ Ds hDs) (ownFrom_below (by omega) (by omega)))))))))))
           (fun c pre X Y row hs hg hr => hs)
           ⟨m6, m7, m8, m11, m16, m17, mT, m14, hM, mB⟩
           (fun c a' W => ∃ (g19 : Nat) (u_ : Nat → Value), a' = { tmps := #[(u_ 0), (u_ 1), (u_ 2), (u_ 3), (u_ 4), (u_ 5), .pointer (some ⟨g6, 0, none⟩), .pointer (some ⟨g7, 0, none⟩), .pointer (some ⟨g8, 0, none⟩), (u_ 9), (u_ 10), .pointer (some ⟨g11, 0, none⟩), (u_ 12), (u_ 13), .pointer (some ⟨g14, 0, none⟩), (u_ 15), .pointer (some ⟨g16, 0, none⟩), .pointer (some ⟨g17, 0, none⟩), (u_ 18), .pointer (some ⟨g19, 0, none⟩), (u_ 20), (u_ 21), (u_ 22), (u_ 23), (u_ 24), (u_ 25), (u_ 26), (u_ 27), (u_ 28), (u_ 29), (u_ 30), (u_ 31), (u_ 32), (u_ 33), (u_ 34), (u_ 35), (u_ 36), (u_ 37), (u_ 38), (u_ 39), (u_ 40), (u_ 41), (u_ 42), (u_ 43), (u_ 44), (u_ 45), (u_ 46), (u_ 47), (u_ 48), (u_ 49), (u_ 50), (u_ 51), (u_ 52), (u_ 53), (u_ 54), (u_ 55), (u_ 56), (u_ 57), (u_ 58), (u_ 59), (u_ 60), (u_ 61), (u_ 62), (u_ 63), (u_ 64), (u_ 65), (u_ 66), (u_ 67), (u_ 68), (u_ 69), (u_ 70)], defers := [] } ∧ Blk W g19 #[.int .i64 c.1.f0, .int .i64 c.1.f1] 33)
           (fun c a' s X Y row hs hg hr => by obtain ⟨g19, u_, h1, h2⟩ := hs; exact ⟨g19, u_, h1, blk_grownO h2 hg hr⟩) ?assign ?body ?done ?stop
          case assign =>
           as_aux_lemma =>
            rintro l_ pre q X_ K ⟨m6, m7, m8, m11, m16, m17, mT, m14, hM, mB⟩ hK
            gi_wp2
            skip
            have hb := below_alloc (Below.refl X_.heap.size X_) (.cells #[.int .i64 q.1.f0, .int .i64 q.1.f1] 33)
            exact hK _ _ (keepsFrom_below hb) (KpD.below mB.size hb) ⟨blk_below m6 hb, blk_below m7 hb, blk_below m8 hb, blk_below m11 hb, blk_below m16 hb, blk_below m17 hb, blk_below mT hb, blk_below m14 hb, hM.below hb, below_step mB hb⟩ ⟨X_.heap.size, (fun k_ => (#[(u_ 0), (u_ 1), (u_ 2), (u_ 3), (u_ 4), (u_ 5), .pointer (some ⟨g6, 0, none⟩), .pointer (some ⟨g7, 0, none⟩), .pointer (some ⟨g8, 0, none⟩), (u_ 9), (u_ 10), .pointer (some ⟨g11, 0, none⟩), (u_ 12), (u_ 13), .pointer (some ⟨g14, 0, none⟩), (u_ 15), .pointer (some ⟨g16, 0, none⟩), .pointer (some ⟨g17, 0, none⟩), .int .i64 0, .pointer (some ⟨X_.heap.size, 0, none⟩), (u_ 20), (u_ 21), (u_ 22), (u_ 23), (u_ 24), (u_ 25), (u_ 26), (u_ 27), (u_ 28), (u_ 29), (u_ 30), (u_ 31), (u_ 32), (u_ 33), (u_ 34), (u_ 35), .slice (some ad_) l.length c, .int .i64 (l.length : Int), .int .i64 (k : Int), .bool true, .pointer (some (ad_.add (k * 4))), .agg #[.int .i64 to_.f0.f0, .int .i64 to_.f0.f1, .int .i64 to_.f1.f0, .int .i64 to_.f1.f1], .tuple #[.agg #[.int .i64 G.f0.f0, .int .i64 G.f0.f1, .int .i64 G.f1.f0, .int .i64 G.f1.f1], .int .i64 0], .pointer (some ⟨g, 0, none⟩), .agg #[.int .i64 X.f0.f0, .int .i64 X.f0.f1, .int .i64 X.f1.f0, .int .i64 X.f1.f1], .int .i64 T, .tuple #[.agg #[.int .i64 G.f0.f0, .int .i64 G.f0.f1, .int .i64 G.f1.f0, .int .i64 G.f1.f1], .int .i64 0], .agg #[.int .i64 G.f0.f0, .int .i64 G.f0.f1, .int .i64 G.f1.f0, .int .i64 G.f1.f1], .int .i64 0, .int .i64 0, .bool false, (u_ 51), .pointer (some ⟨g, 0, none⟩), .func (.func 129) #[] #[.pointer (some ⟨gP, 0, none⟩)], .agg #[.int .i64 q.1.f0, .int .i64 q.1.f1], (u_ 55), (u_ 56), (u_ 57), (u_ 58), (u_ 59), (u_ 60), (u_ 61), (u_ 62), (u_ 63), (u_ 64), (u_ 65), (u_ 66), (u_ 67), (u_ 68), (u_ 69), (u_ 70)] : Array Value).getD k_ undef), rfl, blk_new _ _⟩
          case stop =>
           rintro D_ c pre X_ hD hp h hK
           exact h.elim
          case body =>
           as_aux_lemma =>
            rintro l_ pre q a_ X_ hlW ⟨r, hr⟩ ⟨m6, m7, m8, m11, m16, m17, mT, m14, hM, mB⟩ ⟨g19, u_, rfl, m19⟩ hlen
            have hXs : W0.heap.size ≤ X_.heap.size := Nat.le_trans hlW (Nat.le_of_lt (blk_lt hr))
            clear hr
            have hN : Below X_.heap.size X_ X_ := Below.refl _ _
            have hmap : (insF s v X G T to_ a ((pre ++ [q]).map Subtype.val)) = if insI (endsI s v X G T q.1.f0 q.1.f1) to_ = 2 then (insF s v X G T to_ a (pre.map Subtype.val)) else 16 := by rw [List.map_append, List.map_singleton, insF_snoc]
            have HM := Lib.hid hmap
            clear hmap
            have kEc := fun W (h : TripAt W g s v) => kE W q.1.f0 q.1.f1 h q.2.1.1 q.2.1.2 q.2.2.1 q.2.2.2
            clear kE
            generalize endsI s v X G T q.1.f0 q.1.f1 = E at *
            generalize (insF s v X G T to_ a (pre.map Subtype.val)) = P at *
            have kH := fun W => inside_any E to_ W
            generalize insI E to_ = y at *
            obtain ⟨⟨c0, c1⟩, c2⟩ := q
            dsimp only at m19
            gi_wp2_with fail
            skip
            replace m6 := blk_drew m6
            replace m7 := blk_drew m7
            replace m8 := blk_drew m8
            replace m11 := blk_drew m11
            replace m16 := blk_drew m16
            replace m17 := blk_drew m17
            replace mT := blk_drew mT
            replace m14 := blk_drew m14
            replace m19 := blk_drew m19
            replace mB := below_drew1 mB
            replace hM := hM.below (below_drew1 (Below.refl _ X_))
            replace hN := below_drew1 hN
            have hmx : Try.prog.follows .mixedOrders = true := by kernel_rfl
            refine startIn_ (m := 9) (S := fun w' => w'.cell? ⟨g11, 0, none⟩ = some (.pointer (some ⟨g, 0, none⟩)) ∧ w'.cell? ⟨g7, 0, none⟩ = some (.int .i64 X.f0.f0) ∧ w'.cell? ⟨g7, 1, none⟩ = some (.int .i64 X.f0.f1) ∧ w'.cell? ⟨g7, 2, none⟩ = some (.int .i64 X.f1.f0) ∧ w'.cell? ⟨g7, 3, none⟩ = some (.int .i64 X.f1.f1) ∧ w'.cell? ⟨g17, 0, none⟩ = some (.int .i64 G.f0.f0) ∧ w'.cell? ⟨g17, 1, none⟩ = some (.int .i64 G.f0.f1) ∧ w'.cell? ⟨g17, 2, none⟩ = some (.int .i64 G.f1.f0) ∧ w'.cell? ⟨g17, 3, none⟩ = some (.int .i64 G.f1.f1) ∧ w'.cell? ⟨g8, 0, none⟩ = some (.int .i64 T) ∧ w'.cell? ⟨g19, 0, none⟩ = some (.int .i64 c0) ∧ w'.cell? ⟨g19, 1, none⟩ = some (.int .i64 c1) ∧ w'.cell? ⟨g16, 0, none⟩ = some (.int .i64 to_.f0.f0) ∧ w'.cell? ⟨g16, 1, none⟩ = some (.int .i64 to_.f0.f1) ∧ w'.cell? ⟨g16, 2, none⟩ = some (.int .i64 to_.f1.f0) ∧ w'.cell? ⟨g16, 3, none⟩ = some (.int .i64 to_.f1.f1)) (ds := []) #[false, false, false, false, false, false, false, false, false] zq5 (letsOut_then (letsOut_inBlock letsOut_ownG)) zq5 rfl rfl ⟨((blk_cell m11 0).trans rfl), ((blk_cell m7 0).trans rfl), ((blk_cell m7 1).trans rfl), ((blk_cell m7 2).trans rfl), ((blk_cell m7 3).trans rfl), ((blk_cell m17 0).trans rfl), ((blk_cell m17 1).trans rfl), ((blk_cell m17 2).trans rfl), ((blk_cell m17 3).trans rfl), ((blk_cell m8 0).trans rfl), ((blk_cell m19 0).trans rfl), ((blk_cell m19 1).trans rfl), ((blk_cell m16 0).trans rfl), ((blk_cell m16 1).trans rfl), ((blk_cell m16 2).trans rfl), ((blk_cell m16 3).trans rfl)⟩ (fun hHeld => ?_)
            generalize hWd : World.drew _ = Wx at m6 m7 m8 m11 m16 m17 mT m14 m19 hM hN mB hHeld ⊢
            clear hWd
            refine ztz (i := 0) (N := some 55) zq5 hHeld ?_
            refine ztz (i := 1) (N := some 56) zq5 hHeld ?_
            refine ztz (i := 2) (N := some 57) zq5 hHeld ?_
            refine ztz (i := 3) (N := some 58) zq5 hHeld ?_
            refine ztz (i := 4) (N := some 59) zq5 hHeld ?_
            refine ztz (i := 6) (N := some 61) zq5 hHeld ?_
            refine one_ (i := 5) (N := some 60) #[true, true, true, true, true, true, true, false, false] rfl rfl zq5 (by decide) (fun K hK => ?_)
            have hcon_ := kEc Wx (HTA.out _ mB mT)
            refine goes_ Try.func101 zq5 rfl #[.pointer (some ⟨g, 0, none⟩), .agg #[.int .i64 X.f0.f0, .int .i64 X.f0.f1, .int .i64 X.f1.f0, .int .i64 X.f1.f1], .agg #[.int .i64 G.f0.f0, .int .i64 G.f0.f1, .int .i64 G.f1.f0, .int .i64 G.f1.f1], .int .i64 T, .agg #[.int .i64 c0, .int .i64 c1]] (by rfl) rfl rfl zq19 ?_
            with_reducible refine (hcon_).mono ?_
            rintro e w5 ⟨rfl, hb⟩
            refine ⟨_, rfl, ?_⟩
            clear hcon_
            replace hM := hM.below hb
            replace hN := below_step hN hb
            replace m6 := blk_below m6 hb
            replace m7 := blk_below m7 hb
            replace m8 := blk_below m8 hb
            replace m11 := blk_below m11 hb
            replace m16 := blk_below m16 hb
            replace m17 := blk_below m17 hb
            replace mT := blk_below mT hb
            replace m14 := blk_below m14 hb
            replace m19 := blk_below m19 hb
            replace mB := below_step mB hb
            clear hb
            refine hK.out _ _ ⟨((blk_cell m11 0).trans rfl), ((blk_cell m7 0).trans rfl), ((blk_cell m7 1).trans rfl), ((blk_cell m7 2).trans rfl), ((blk_cell m7 3).trans rfl), ((blk_cell m17 0).trans rfl), ((blk_cell m17 1).trans rfl), ((blk_cell m17 2).trans rfl), ((blk_cell m17 3).trans rfl), ((blk_cell m8 0).trans rfl), ((blk_cell m19 0).trans rfl), ((blk_cell m19 1).trans rfl), ((blk_cell m16 0).trans rfl), ((blk_cell m16 1).trans rfl), ((blk_cell m16 2).trans rfl), ((blk_cell m16 3).trans rfl)⟩ (fun hHeld => ?_)
            clear hK K
            refine norm_ (by show Act.put _ (some 60) _ = _; simp only [Act.put, List.setIfInBounds_toArray, List.set_cons_zero, List.set_cons_succ, i64_w, i32_w]; rfl) ?_
            refine one_ (i := 7) (N := some 62) #[true, true, true, true, true, true, true, true, false] rfl rfl zq5 (by decide) (fun K hK => ?_)
            have hcon_ := kH w5
            refine goes_ Try.func89 zq5 rfl #[.agg #[.int .i64 E.f0.f0, .int .i64 E.f0.f1, .int .i64 E.f1.f0, .int .i64 E.f1.f1], .agg #[.int .i64 to_.f0.f0, .int .i64 to_.f0.f1, .int .i64 to_.f1.f0, .int .i64 to_.f1.f1]] (by rfl) rfl rfl zq19 ?_
            with_reducible refine (hcon_).mono ?_
            rintro e w7 ⟨rfl, hb⟩
            refine ⟨_, rfl, ?_⟩
            clear hcon_
            replace hM := hM.below hb
            replace hN := below_step hN hb
            replace m6 := blk_below m6 hb
            replace m7 := blk_below m7 hb
            replace m8 := blk_below m8 hb
            replace m11 := blk_below m11 hb
            replace m16 := blk_below m16 hb
            replace m17 := blk_below m17 hb
            replace mT := blk_below mT hb
            replace m14 := blk_below m14 hb
            replace m19 := blk_below m19 hb
            replace mB := below_step mB hb
            clear hb
            refine hK.out _ _ ⟨((blk_cell m11 0).trans rfl), ((blk_cell m7 0).trans rfl), ((blk_cell m7 1).trans rfl), ((blk_cell m7 2).trans rfl), ((blk_cell m7 3).trans rfl), ((blk_cell m17 0).trans rfl), ((blk_cell m17 1).trans rfl), ((blk_cell m17 2).trans rfl), ((blk_cell m17 3).trans rfl), ((blk_cell m8 0).trans rfl), ((blk_cell m19 0).trans rfl), ((blk_cell m19 1).trans rfl), ((blk_cell m16 0).trans rfl), ((blk_cell m16 1).trans rfl), ((blk_cell m16 2).trans rfl), ((blk_cell m16 3).trans rfl)⟩ (fun hHeld => ?_)
            clear hK K
            refine norm_ (by show Act.put _ (some 62) _ = _; simp only [Act.put, List.setIfInBounds_toArray, List.set_cons_zero, List.set_cons_succ, i64_w, i32_w]; rfl) ?_
            refine zpz (i := 8) (N := some 63) zq5 ?_
            refine done_ zq5 ?_
            try clear hHeld
            skip
            by_cases hy : y = 2
            case pos =>
             as_aux_lemma =>
              have hd1 : (y == 2) = true := by rw [hy]; rfl
              have hd2 : (y != 2) = false := by rw [bne, hd1]; rfl
              have HM2 := Lib.hid (HM.out.trans (if_pos hy))
              clear hy HM
              gi_wp2
              skip
              refine ⟨keepsFrom_below hN, KpD.below (Nat.le_trans hs_W0 hXs) hN, ?_⟩
              dsimp only
              rw [HM2.out]
              exact ⟨m6, m7, m8, m11, m16, m17, mT, m14, hM, mB⟩
            case neg =>
             as_aux_lemma =>
              have hd1 : (y == 2) = false := beq_eq_false_iff_ne.2 hy
              have hd2 : (y != 2) = true := by rw [bne, hd1]; rfl
              have HM2 := Lib.hid (HM.out.trans (if_neg hy))
              clear hy HM
              have c14 := (blk_cell m14 0).trans rfl
              have f14 := blk_frozen m14 0
              gi_wp2
              skip
              obtain ⟨hn_6_14, hn_7_14, hn_8_14, hn_11_14, hn_16_14, hn_17_14, hn_T_14, hn_P_14, hn_6_7, hn_8_7, hn_11_7, hn_14_7, hn_T_7, hn_16_7, hn_6_8, hn_7_8, hn_11_8, hn_14_8, hn_T_8, hn_16_8⟩ := HN.out
              refine ⟨(keepsFrom_below hN).trans ((KeepsOthers.setCell _ _ _).from _), KpD.set (p := ⟨g14, 0, none⟩) (KpD.below (Nat.le_trans hs_W0 hXs) hN) hG14 hn_T_14 hn_P_14 _, ?_⟩
              dsimp only
              rw [HM2.out]
              exact ⟨(blk_far (p := ⟨g14, 0, none⟩) m6 hn_6_14 _), (blk_far (p := ⟨g14, 0, none⟩) m7 hn_7_14 _), (blk_far (p := ⟨g14, 0, none⟩) m8 hn_8_14 _), (blk_far (p := ⟨g14, 0, none⟩) m11 hn_11_14 _), (blk_far (p := ⟨g14, 0, none⟩) m16 hn_16_14 _), (blk_far (p := ⟨g14, 0, none⟩) m17 hn_17_14 _), (blk_far (p := ⟨g14, 0, none⟩) mT hn_T_14 _), (blk_put m14 0 _ rfl), (Marks.set hM m14 (i := 0) _), (Below.setCell (p := ⟨g14, 0, none⟩) mB hG14 _)⟩
          case done =>
           as_aux_lemma =>
            rintro D_ xs X_ hD hxs ⟨m6, m7, m8, m11, m16, m17, mT, m14, hM, mB⟩ hK
            clear kE
            have hHx : insF s v X G T to_ a (xs.map Subtype.val) = a2 := by rw [show xs.map Subtype.val = crsL s from hxs]; exact HST.out.symm
            rw [hHx] at m14
            clear hHx HST hxs
            have hM2 := hM.cons (fun h => absurd (hDs D_ h) (Nat.not_lt.2 hD)) (Nat.le_trans hs_W0 hD) hK
            clear hM hK m17
            have hs_X : w.heap.size ≤ X_.heap.size := mB.size
            dsimp only [Exit.inBlock, Exit.then]
            apply_assumption
            refine wpIn_only (wpIn_wide.2 ?_)
            skip
            obtain ⟨hn_6_14, hn_7_14, hn_8_14, hn_11_14, hn_16_14, hn_17_14, hn_T_14, hn_P_14, hn_6_7, hn_8_7, hn_11_7, hn_14_7, hn_T_7, hn_16_7, hn_6_8, hn_7_8, hn_11_8, hn_14_8, hn_T_8, hn_16_8⟩ := HN.out
            replace m6 := blk_drew m6
            replace m7 := blk_drew m7
            replace m8 := blk_drew m8
            replace m11 := blk_drew m11
            replace m16 := blk_drew m16
            replace mT := blk_drew mT
            replace m14 := blk_drew m14
            replace mB := below_drew1 mB
            replace hM2 := hM2.below (below_drew1 (Below.refl _ X_))
            refine start_ (n := 7) (S := fun w' => w'.cell? ⟨g16, 0, none⟩ = some (.int .i64 to_.f0.f0) ∧ w'.cell? ⟨g16, 1, none⟩ = some (.int .i64 to_.f0.f1) ∧ w'.cell? ⟨g16, 2, none⟩ = some (.int .i64 to_.f1.f0) ∧ w'.cell? ⟨g16, 3, none⟩ = some (.int .i64 to_.f1.f1) ∧ w'.cell? ⟨g8, 0, none⟩ = some (.int .i64 T) ∧ w'.cell? ⟨g6, 0, none⟩ = some (.int .i64 v.speed) ∧ w'.cell? ⟨g6, 1, none⟩ = some (.int .i64 v.dive) ∧ w'.cell? ⟨g6, 2, none⟩ = some (.int .i64 v.use.f0) ∧ w'.cell? ⟨g6, 3, none⟩ = some (.int .i64 v.use.f1) ∧ w'.cell? ⟨g6, 4, none⟩ = some (.int .i64 v.drift.f0) ∧ w'.cell? ⟨g6, 5, none⟩ = some (.int .i64 v.drift.f1) ∧ w'.cell? ⟨g6, 6, none⟩ = some (.int .i64 v.reserve)) (ds := [6]) #[false, false, false, false, false, false, false] zq5 rfl rfl ⟨((blk_cell m16 0).trans rfl), ((blk_cell m16 1).trans rfl), ((blk_cell m16 2).trans rfl), ((blk_cell m16 3).trans rfl), ((blk_cell m8 0).trans rfl), ((blk_cell m6 0).trans rfl), ((blk_cell m6 1).trans rfl), ((blk_cell m6 2).trans rfl), ((blk_cell m6 3).trans rfl), ((blk_cell m6 4).trans rfl), ((blk_cell m6 5).trans rfl), ((blk_cell m6 6).trans rfl)⟩ (fun hHeld => ?_)
            generalize hWd : World.drew _ = Wx at m6 m7 m8 m11 m16 mT m14 hM2 mB hHeld ⊢
            clear hWd
            refine zpz (i := 2) (N := some 66) zq5 ?_
            refine ztz (i := 0) (N := some 64) zq5 hHeld ?_
            refine ztz (i := 1) (N := some 65) zq5 hHeld ?_
            refine ztz (i := 3) (N := some 67) zq5 hHeld ?_
            refine zpz (i := 4) (N := some 68) zq5 ?_
            refine one_ (i := 5) (N := none) #[true, true, true, true, true, true, false] rfl rfl zq5 (by decide) (fun K hK => ?_)
            have hf0_ := blk_frozen m7 0
            have hf1_ := blk_frozen m7 1
            have hf2_ := blk_frozen m7 2
            have hf3_ := blk_frozen m7 3
            have hc0_ := (blk_cell m7 0).trans rfl
            have hc1_ := (blk_cell m7 1).trans rfl
            have hc2_ := (blk_cell m7 2).trans rfl
            have hc3_ := (blk_cell m7 3).trans rfl
            refine skip_ (w1 := ?_) (by rfl) rfl ?_ ?_
            rotate_left
            ·go_simp
             rfl
            clear hf0_ hc0_ hf1_ hc1_ hf2_ hc2_ hf3_ hc3_
            refine hK.out _ _ ⟨((blk_cell (blk_far (p := ⟨g7, 3, none⟩) (blk_far (p := ⟨g7, 2, none⟩) (blk_far (p := ⟨g7, 1, none⟩) (blk_far (p := ⟨g7, 0, none⟩) m16 hn_16_7 _) hn_16_7 _) hn_16_7 _) hn_16_7 _) 0).trans rfl), ((blk_cell (blk_far (p := ⟨g7, 3, none⟩) (blk_far (p := ⟨g7, 2, none⟩) (blk_far (p := ⟨g7, 1, none⟩) (blk_far (p := ⟨g7, 0, none⟩) m16 hn_16_7 _) hn_16_7 _) hn_16_7 _) hn_16_7 _) 1).trans rfl), ((blk_cell (blk_far (p := ⟨g7, 3, none⟩) (blk_far (p := ⟨g7, 2, none⟩) (blk_far (p := ⟨g7, 1, none⟩) (blk_far (p := ⟨g7, 0, none⟩) m16 hn_16_7 _) hn_16_7 _) hn_16_7 _) hn_16_7 _) 2).trans rfl), ((blk_cell (blk_far (p := ⟨g7, 3, none⟩) (blk_far (p := ⟨g7, 2, none⟩) (blk_far (p := ⟨g7, 1, none⟩) (blk_far (p := ⟨g7, 0, none⟩) m16 hn_16_7 _) hn_16_7 _) hn_16_7 _) hn_16_7 _) 3).trans rfl), ((blk_cell (blk_far (p := ⟨g7, 3, none⟩) (blk_far (p := ⟨g7, 2, none⟩) (blk_far (p := ⟨g7, 1, none⟩) (blk_far (p := ⟨g7, 0, none⟩) m8 hn_8_7 _) hn_8_7 _) hn_8_7 _) hn_8_7 _) 0).trans rfl), ((blk_cell (blk_far (p := ⟨g7, 3, none⟩) (blk_far (p := ⟨g7, 2, none⟩) (blk_far (p := ⟨g7, 1, none⟩) (blk_far (p := ⟨g7, 0, none⟩) m6 hn_6_7 _) hn_6_7 _) hn_6_7 _) hn_6_7 _) 0).trans rfl), ((blk_cell (blk_far (p := ⟨g7, 3, none⟩) (blk_far (p := ⟨g7, 2, none⟩) (blk_far (p := ⟨g7, 1, none⟩) (blk_far (p := ⟨g7, 0, none⟩) m6 hn_6_7 _) hn_6_7 _) hn_6_7 _) hn_6_7 _) 1).trans rfl), ((blk_cell (blk_far (p := ⟨g7, 3, none⟩) (blk_far (p := ⟨g7, 2, none⟩) (blk_far (p := ⟨g7, 1, none⟩) (blk_far (p := ⟨g7, 0, none⟩) m6 hn_6_7 _) hn_6_7 _) hn_6_7 _) hn_6_7 _) 2).trans rfl), ((blk_cell (blk_far (p := ⟨g7, 3, none⟩) (blk_far (p := ⟨g7, 2, none⟩) (blk_far (p := ⟨g7, 1, none⟩) (blk_far (p := ⟨g7, 0, none⟩) m6 hn_6_7 _) hn_6_7 _) hn_6_7 _) hn_6_7 _) 3).trans rfl), ((blk_cell (blk_far (p := ⟨g7, 3, none⟩) (blk_far (p := ⟨g7, 2, none⟩) (blk_far (p := ⟨g7, 1, none⟩) (blk_far (p := ⟨g7, 0, none⟩) m6 hn_6_7 _) hn_6_7 _) hn_6_7 _) hn_6_7 _) 4).trans rfl), ((blk_cell (blk_far (p := ⟨g7, 3, none⟩) (blk_far (p := ⟨g7, 2, none⟩) (blk_far (p := ⟨g7, 1, none⟩) (blk_far (p := ⟨g7, 0, none⟩) m6 hn_6_7 _) hn_6_7 _) hn_6_7 _) hn_6_7 _) 5).trans rfl), ((blk_cell (blk_far (p := ⟨g7, 3, none⟩) (blk_far (p := ⟨g7, 2, none⟩) (blk_far (p := ⟨g7, 1, none⟩) (blk_far (p := ⟨g7, 0, none⟩) m6 hn_6_7 _) hn_6_7 _) hn_6_7 _) hn_6_7 _) 6).trans rfl)⟩ (fun hHeld => ?_)
            clear hK K
            refine last_ (i := 6) (N := none) #[true, true, true, true, true, true, true] rfl rfl zq5 (by decide) (fun K hK => ?_)
            have hq_ := (blk_far (p := ⟨g7, 3, none⟩) (blk_far (p := ⟨g7, 2, none⟩) (blk_far (p := ⟨g7, 1, none⟩) (blk_far (p := ⟨g7, 0, none⟩) m8 hn_8_7 (.int .i64 to_.f0.f0)) hn_8_7 (.int .i64 to_.f0.f1)) hn_8_7 (.int .i64 to_.f1.f0)) hn_8_7 (.int .i64 to_.f1.f1))
            have hf0_ := blk_frozen hq_ 0
            have hc0_ := (blk_cell hq_ 0).trans rfl
            refine skip_ (w1 := ?_) (by rfl) rfl ?_ ?_
            rotate_left
            ·go_simp
             rfl
            refine hK.out _ _ ?_
            clear hK K
            refine done_ zq5 ?_
            refine onlyN_normal ?_
            have hl6 := HL.out
            gi_wp2
            skip
            have hq := HQ.out
            have hv := HDV.out
            have hwr : wrap64 (T + v.dive) = T + v.dive := by unfold wrap64; omega
            have hkw : ((k + 1 : Nat) : Int) = (k : Int) + 1 := by omega
            refine ⟨⟨k + 1, to_, wrap64 (T + v.dive), a2, D_ :: Ds, (fun k_ => (#[(u_ 0), (u_ 1), (u_ 2), (u_ 3), (u_ 4), (u_ 5), .pointer (some ⟨g6, 0, none⟩), .pointer (some ⟨g7, 0, none⟩), .pointer (some ⟨g8, 0, none⟩), (u_ 9), (u_ 10), .pointer (some ⟨g11, 0, none⟩), (u_ 12), (u_ 13), .pointer (some ⟨g14, 0, none⟩), (u_ 15), .pointer (some ⟨g16, 0, none⟩), .pointer (some ⟨g17, 0, none⟩), .int .i64 0, (u_ 19), (u_ 20), (u_ 21), (u_ 22), (u_ 23), (u_ 24), (u_ 25), (u_ 26), (u_ 27), (u_ 28), (u_ 29), (u_ 30), (u_ 31), (u_ 32), (u_ 33), (u_ 34), (u_ 35), .slice (some ad_) l.length c, .int .i64 (l.length : Int), .int .i64 (((k + 1 : Nat)) : Int), .bool true, .pointer (some (ad_.add (k * 4))), .agg #[.int .i64 to_.f0.f0, .int .i64 to_.f0.f1, .int .i64 to_.f1.f0, .int .i64 to_.f1.f1], .tuple #[.agg #[.int .i64 G.f0.f0, .int .i64 G.f0.f1, .int .i64 G.f1.f0, .int .i64 G.f1.f1], .int .i64 0], .pointer (some ⟨g, 0, none⟩), .agg #[.int .i64 X.f0.f0, .int .i64 X.f0.f1, .int .i64 X.f1.f0, .int .i64 X.f1.f1], .int .i64 T, .tuple #[.agg #[.int .i64 G.f0.f0, .int .i64 G.f0.f1, .int .i64 G.f1.f0, .int .i64 G.f1.f1], .int .i64 0], .agg #[.int .i64 G.f0.f0, .int .i64 G.f0.f1, .int .i64 G.f1.f0, .int .i64 G.f1.f1], .int .i64 0, .int .i64 0, .bool false, (u_ 51), .pointer (some ⟨g, 0, none⟩), .func (.func 129) #[] #[.pointer (some ⟨gP, 0, none⟩)], (u_ 54), (u_ 55), (u_ 56), (u_ 57), (u_ 58), (u_ 59), (u_ 60), (u_ 61), (u_ 62), (u_ 63), .agg #[.int .i64 to_.f0.f0, .int .i64 to_.f0.f1, .int .i64 to_.f1.f0, .int .i64 to_.f1.f1], .int .i64 T, .pointer (some ⟨g6, 1, none⟩), .int .i64 v.dive, .int .i64 (wrap64 (T + v.dive)), .int .i64 (((k + 1 : Nat)) : Int), (u_ 70)] : Array Value).getD k_ undef), ?fr, by omega, Lib.hid (by rw [hwr]; exact HR3.out), Lib.hid ⟨HXS.out.2, by rw [hwr]; omega, by rw [hwr]; omega⟩, (Marks.set (Marks.set (Marks.set (Marks.set (Marks.set hM2 m7 (i := 0) _) (blk_put m7 0 (.int .i64 to_.f0.f0) rfl) (i := 1) _) (blk_put (blk_put m7 0 (.int .i64 to_.f0.f0) rfl) 1 (.int .i64 to_.f0.f1) rfl) (i := 2) _) (blk_put (blk_put (blk_put m7 0 (.int .i64 to_.f0.f0) rfl) 1 (.int .i64 to_.f0.f1) rfl) 2 (.int .i64 to_.f1.f0) rfl) (i := 3) _) (blk_far (p := ⟨g7, 3, none⟩) (blk_far (p := ⟨g7, 2, none⟩) (blk_far (p := ⟨g7, 1, none⟩) (blk_far (p := ⟨g7, 0, none⟩) m8 hn_8_7 _) hn_8_7 _) hn_8_7 _) hn_8_7 _) (i := 0) _), (blk_far (p := ⟨g8, 0, none⟩) (blk_far (p := ⟨g7, 3, none⟩) (blk_far (p := ⟨g7, 2, none⟩) (blk_far (p := ⟨g7, 1, none⟩) (blk_far (p := ⟨g7, 0, none⟩) m6 hn_6_7 _) hn_6_7 _) hn_6_7 _) hn_6_7 _) hn_6_8 _), (blk_far (p := ⟨g8, 0, none⟩) (blk_put (blk_put (blk_put (blk_put m7 0 (.int .i64 to_.f0.f0) rfl) 1 (.int .i64 to_.f0.f1) rfl) 2 (.int .i64 to_.f1.f0) rfl) 3 (.int .i64 to_.f1.f1) rfl) hn_7_8 _), (blk_put (blk_far (p := ⟨g7, 3, none⟩) (blk_far (p := ⟨g7, 2, none⟩) (blk_far (p := ⟨g7, 1, none⟩) (blk_far (p := ⟨g7, 0, none⟩) m8 hn_8_7 _) hn_8_7 _) hn_8_7 _) hn_8_7 _) 0 (.int .i64 (wrap64 (T + v.dive))) rfl), (blk_far (p := ⟨g8, 0, none⟩) (blk_far (p := ⟨g7, 3, none⟩) (blk_far (p := ⟨g7, 2, none⟩) (blk_far (p := ⟨g7, 1, none⟩) (blk_far (p := ⟨g7, 0, none⟩) m11 hn_11_7 _) hn_11_7 _) hn_11_7 _) hn_11_7 _) hn_11_8 _), (blk_far (p := ⟨g8, 0, none⟩) (blk_far (p := ⟨g7, 3, none⟩) (blk_far (p := ⟨g7, 2, none⟩) (blk_far (p := ⟨g7, 1, none⟩) (blk_far (p := ⟨g7, 0, none⟩) m14 hn_14_7 _) hn_14_7 _) hn_14_7 _) hn_14_7 _) hn_14_8 _), (blk_far (p := ⟨g8, 0, none⟩) (blk_far (p := ⟨g7, 3, none⟩) (blk_far (p := ⟨g7, 2, none⟩) (blk_far (p := ⟨g7, 1, none⟩) (blk_far (p := ⟨g7, 0, none⟩) mT hn_T_7 _) hn_T_7 _) hn_T_7 _) hn_T_7 _) hn_T_8 _), (Below.setCell (p := ⟨g8, 0, none⟩) (Below.setCell (p := ⟨g7, 3, none⟩) (Below.setCell (p := ⟨g7, 2, none⟩) (Below.setCell (p := ⟨g7, 1, none⟩) (Below.setCell (p := ⟨g7, 0, none⟩) mB hG7 _) hG7 _) hG7 _) hG7 _) hG8 _)⟩, by simp [intOf]; omega⟩
            case fr => first | rfl | (rw [hkw]; rfl)
end Go.Proofs.Ytmhaiihjfgfaoaa.Gl
end
