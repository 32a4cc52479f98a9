/- Part 17 of the proof of TopSearched: what the functions compute. No condition. -/
import Derived.Test.YthglkoddmpicdaaTsTopSearched3
import Derived.Test.YthglkoddmpicdaaTsTopSearched16
import Derived.Test.YthglkoddmpicdaaTsTopSearched5
import Derived.Test.YthglkoddmpicdaaTsTopSearched14
import Derived.Test.YthglkoddmpicdaaTsTopSearched11
import Derived.Test.YthglkoddmpicdaaTsTopSearched13
import Derived.Test.YthglkoddmpicdaaTsTopSearched6
set_option linter.unusedVariables false
set_option linter.unusedSimpArgs false
section
/- A proof that no plan is fetched, as the program returns it. -/
namespace Go.Proofs.Ythglkoddmpicdaa.Gl
open Go.RowKit Go.Shelf Go.Proofs.YthglkoddmpicdaaW.PrintWords Go.Proofs.YthglkoddmpicdaaW.PrintLast Go.Proofs.YthglkoddmpicdaaW.PrintMore Go.Proofs.Ythglkoddmpicdaa.Pr Go.Proofs.YthglkoddmpicdaaW.Round
set_option linter.unusedVariables false
set_option linter.unusedSimpArgs false
attribute [local go_sem] max2_int min2_int max_two min_two max_four
/-- May a run be fetched, after some dives at a second? -/
def fetA (dive : Int) (p : S44) : List S29 → Int → Bool
 | [], _ => false
 | b :: l, t => (btwB (t + dive) p.f1 p.f2 && decide (insI b p.f0 ≠ 0)) || fetA dive p l (t + dive)
theorem fetA_loop (v : Veh) (p : S44) (l : List S29) (hl : l.length ≤ 64) (hd : 1 ≤ v.dive ∧ v.dive ≤ 131072) : ∀ (m i k : Nat) (t : Int), i + m = l.length → m < k → 0 ≤ t → t ≤ 1073741824 + (i : Int) * 131072 →
  glider_fetchedAny.l0 k t l (l.length : Int) (i : Int) v.speed v.dive v.use.f0 v.use.f1 v.drift.f0 v.drift.f1 v.reserve p.f0.f0.f0 p.f0.f0.f1 p.f0.f1.f0 p.f0.f1.f1 p.f1 p.f2 = some (fetA v.dive p (l.drop i) t) := by
 intro m
 induction m with
 | zero =>
  intro i k t h hk h0 h1
  obtain ⟨k, rfl⟩ : ∃ z, k = z + 1 := ⟨k - 1, by omega⟩
  have : l.drop i = [] := List.drop_eq_nil_iff.2 (by omega)
  rw [glider_fetchedAny.l0, if_neg (by omega), this]
  rfl
 | succ m ih =>
  intro i k t h hk h0 h1
  obtain ⟨k, rfl⟩ : ∃ z, k = z + 1 := ⟨k - 1, by omega⟩
  have hi : i < l.length := by omega
  have e : rd_T29 l (i : Int) = l[i] := by unfold rd_T29; simp [hi]
  have hc : ((i + 1 : Nat) : Int) = (i : Int) + 1 := by omega
  have hw : wrap64 (t + v.dive) = t + v.dive := by unfold wrap64; omega
  have hw2 : wrap64 ((i : Int) + 1) = ((i + 1 : Nat) : Int) := by unfold wrap64; omega
  have hin : glider_inside.f l[i].f0.f0 l[i].f0.f1 l[i].f1.f0 l[i].f1.f1 p.f0.f0.f0 p.f0.f0.f1 p.f0.f1.f0 p.f0.f1.f1 = some (insI l[i] p.f0) := rfl
  have ih1 := ih (i + 1) k (t + v.dive) (by omega) (by omega) (by omega) (by omega)
  rw [glider_fetchedAny.l0, if_pos (by omega), if_pos (by omega), if_pos (by omega), e, hw, hw2, btw_some, Option.bind_some, ih1, List.drop_eq_getElem_cons hi]
  rw [show fetA v.dive p (l[i] :: l.drop (i + 1)) t = ((btwB (t + v.dive) p.f1 p.f2 && decide (insI l[i] p.f0 ≠ 0)) || fetA v.dive p (l.drop (i + 1)) (t + v.dive)) from rfl]
  cases hb : btwB (t + v.dive) p.f1 p.f2 with
  | false => rw [if_neg (by decide), Bool.false_and, Bool.false_or]
  | true =>
   rw [if_pos rfl, hin, Option.bind_some, Bool.true_and]
   by_cases hz : insI l[i] p.f0 = 0
   ·rw [if_pos hz, decide_eq_false (fun q => q hz), Bool.false_or]
   ·rw [if_neg hz, decide_eq_true hz, Bool.true_or]
theorem fetA_some (v : Veh) (p : S44) (l : List S29) (t : Int) (hl : l.length ≤ 64) (hd : 1 ≤ v.dive ∧ v.dive ≤ 131072) (h0 : 0 ≤ t) (h1 : t ≤ 1073741824) : glider_fetchedAny.f 66 v.speed v.dive v.use.f0 v.use.f1 v.drift.f0 v.drift.f1 v.reserve t l p.f0.f0.f0 p.f0.f0.f1 p.f0.f1.f0 p.f0.f1.f1 p.f1 p.f2 = some (fetA v.dive p l t) := by
 unfold glider_fetchedAny.f
 have := fetA_loop v p l hl hd l.length 0 66 t (by omega) (by omega) h0 (by omega)
 rw [List.drop_zero] at this
 exact this
theorem hulls_len (s : Sea) (v : Veh) : ∀ (n : Nat) (x : S29) (t : Int) (out : List S29), (hullsI s v n x t out).1.length ≤ out.length + n
 | 0, x, t, out => by unfold hullsI; exact Nat.le_refl _
 | n + 1, x, t, out => by
  unfold hullsI
  split
  ·exact Nat.zero_le _
  ·have := hulls_len s v n (stepH s v x t) (t + v.dive) (out ++ [stepH s v x t])
   rw [List.length_append, List.length_singleton] at this
   omega
/-- What Never returns. -/
def NeverX (s : Sea) (v : Veh) (x : S29) (t : Int) (p : S44) (d : Int) : List S29 × Int := if beginE s v x t ≠ 0 then ([], beginE s v x t) else if pickB p = false then ([], 2) else if d < 1 ∨ d > 64 then ([], 3) else if (hullsI s v d.toNat x t []).2 ≠ 0 then ([], (hullsI s v d.toNat x t []).2) else if fetA v.dive p (hullsI s v d.toNat x t []).1 t = true then ([], 15) else hullsI s v d.toNat x t []
set_option maxRecDepth 100000 in
set_option maxHeartbeats 8000000 in
theorem Never_any (s : Sea) (v : Veh) (x : S29) (t : Int) (p : S44) (d : Int) (A7 A8 : Option Addr) (c7 c8 : Nat) (w : World) (h7 : s.shores.length ≤ c7) (hC7 : Kd.C Kd.bool w A7 s.shores.length s.shores) (h8 : s.currents.length ≤ c8) (hC8 : Kd.C k33 w A8 s.currents.length s.currents) :
  Calls Try.prog 46 #[.agg #[.int .i64 s.nx, .int .i64 s.ny, .int .i64 s.cell, .int .i64 s.slot, .int .i64 s.slots, .int .i64 s.layers, .int .i64 s.most, .slice A7 s.shores.length c7, .slice A8 s.currents.length c8], .agg #[.int .i64 v.speed, .int .i64 v.dive, .int .i64 v.use.f0, .int .i64 v.use.f1, .int .i64 v.drift.f0, .int .i64 v.drift.f1, .int .i64 v.reserve], .agg #[.int .i64 x.f0.f0, .int .i64 x.f0.f1, .int .i64 x.f1.f0, .int .i64 x.f1.f1], .int .i64 t, .agg #[.int .i64 p.f0.f0.f0, .int .i64 p.f0.f0.f1, .int .i64 p.f0.f1.f0, .int .i64 p.f0.f1.f1, .int .i64 p.f1, .int .i64 p.f2], .int .i64 d] w (HullPost (NeverX s v x t p d) w) := by
 have hu25 := Try.underlying25
 have hu41 := Try.underlying41
 have hu29 := Try.underlying29
 have hu27 := Try.underlying27
 have hu44 := Try.underlying44
 have HX : Hid (NeverX s v x t p d = if beginE s v x t ≠ 0 then ([], beginE s v x t) else if pickB p = false then ([], 2) else if d < 1 ∨ d > 64 then ([], 3) else if (hullsI s v d.toNat x t []).2 ≠ 0 then ([], (hullsI s v d.toNat x t []).2) else if fetA v.dive p (hullsI s v d.toNat x t []).1 t = true then ([], 15) else hullsI s v d.toNat x t []) := Lib.hid rfl
 have hbg : beginE s v x t = if tripE s v ≠ 0 then tripE s v else placeE x t := rfl
 have HBG := Lib.hid hbg
 clear hbg
 go_enter Try.func46, Try.ntmps46
 go_wp2_with fail
 have m6 : Blk ((((w.alloc (.cells #[.int .i64 s.nx, .int .i64 s.ny, .int .i64 s.cell, .int .i64 s.slot, .int .i64 s.slots, .int .i64 s.layers, .int .i64 s.most, .slice A7 s.shores.length c7, .slice A8 s.currents.length c8] 25)).alloc (.cells #[.int .i64 v.speed, .int .i64 v.dive, .int .i64 v.use.f0, .int .i64 v.use.f1, .int .i64 v.drift.f0, .int .i64 v.drift.f1, .int .i64 v.reserve] 41)).alloc (.cells #[.int .i64 x.f0.f0, .int .i64 x.f0.f1, .int .i64 x.f1.f0, .int .i64 x.f1.f1] 29)).alloc (.cells #[.int .i64 p.f0.f0.f0, .int .i64 p.f0.f0.f1, .int .i64 p.f0.f1.f0, .int .i64 p.f0.f1.f1, .int .i64 p.f1, .int .i64 p.f2] 44)) (w.heap.size) #[.int .i64 s.nx, .int .i64 s.ny, .int .i64 s.cell, .int .i64 s.slot, .int .i64 s.slots, .int .i64 s.layers, .int .i64 s.most, .slice A7 s.shores.length c7, .slice A8 s.currents.length c8] 25 := (blk_alloc (blk_alloc (blk_alloc zq20 _) _) _)
 have m7 : Blk ((((w.alloc (.cells #[.int .i64 s.nx, .int .i64 s.ny, .int .i64 s.cell, .int .i64 s.slot, .int .i64 s.slots, .int .i64 s.layers, .int .i64 s.most, .slice A7 s.shores.length c7, .slice A8 s.currents.length c8] 25)).alloc (.cells #[.int .i64 v.speed, .int .i64 v.dive, .int .i64 v.use.f0, .int .i64 v.use.f1, .int .i64 v.drift.f0, .int .i64 v.drift.f1, .int .i64 v.reserve] 41)).alloc (.cells #[.int .i64 x.f0.f0, .int .i64 x.f0.f1, .int .i64 x.f1.f0, .int .i64 x.f1.f1] 29)).alloc (.cells #[.int .i64 p.f0.f0.f0, .int .i64 p.f0.f0.f1, .int .i64 p.f0.f1.f0, .int .i64 p.f0.f1.f1, .int .i64 p.f1, .int .i64 p.f2] 44)) (w.heap.size + 1) #[.int .i64 v.speed, .int .i64 v.dive, .int .i64 v.use.f0, .int .i64 v.use.f1, .int .i64 v.drift.f0, .int .i64 v.drift.f1, .int .i64 v.reserve] 41 := (blk_alloc (blk_alloc zq35 _) _)
 have m8 : Blk ((((w.alloc (.cells #[.int .i64 s.nx, .int .i64 s.ny, .int .i64 s.cell, .int .i64 s.slot, .int .i64 s.slots, .int .i64 s.layers, .int .i64 s.most, .slice A7 s.shores.length c7, .slice A8 s.currents.length c8] 25)).alloc (.cells #[.int .i64 v.speed, .int .i64 v.dive, .int .i64 v.use.f0, .int .i64 v.use.f1, .int .i64 v.drift.f0, .int .i64 v.drift.f1, .int .i64 v.reserve] 41)).alloc (.cells #[.int .i64 x.f0.f0, .int .i64 x.f0.f1, .int .i64 x.f1.f0, .int .i64 x.f1.f1] 29)).alloc (.cells #[.int .i64 p.f0.f0.f0, .int .i64 p.f0.f0.f1, .int .i64 p.f0.f1.f0, .int .i64 p.f0.f1.f1, .int .i64 p.f1, .int .i64 p.f2] 44)) (w.heap.size + 1 + 1) #[.int .i64 x.f0.f0, .int .i64 x.f0.f1, .int .i64 x.f1.f0, .int .i64 x.f1.f1] 29 := (blk_alloc zq36 _)
 have m10 : Blk ((((w.alloc (.cells #[.int .i64 s.nx, .int .i64 s.ny, .int .i64 s.cell, .int .i64 s.slot, .int .i64 s.slots, .int .i64 s.layers, .int .i64 s.most, .slice A7 s.shores.length c7, .slice A8 s.currents.length c8] 25)).alloc (.cells #[.int .i64 v.speed, .int .i64 v.dive, .int .i64 v.use.f0, .int .i64 v.use.f1, .int .i64 v.drift.f0, .int .i64 v.drift.f1, .int .i64 v.reserve] 41)).alloc (.cells #[.int .i64 x.f0.f0, .int .i64 x.f0.f1, .int .i64 x.f1.f0, .int .i64 x.f1.f1] 29)).alloc (.cells #[.int .i64 p.f0.f0.f0, .int .i64 p.f0.f0.f1, .int .i64 p.f0.f1.f0, .int .i64 p.f0.f1.f1, .int .i64 p.f1, .int .i64 p.f2] 44)) (w.heap.size + 1 + 1 + 1) #[.int .i64 p.f0.f0.f0, .int .i64 p.f0.f0.f1, .int .i64 p.f0.f1.f0, .int .i64 p.f0.f1.f1, .int .i64 p.f1, .int .i64 p.f2] 44 := (by have h_ := blk_new (((w.alloc (.cells #[.int .i64 s.nx, .int .i64 s.ny, .int .i64 s.cell, .int .i64 s.slot, .int .i64 s.slots, .int .i64 s.layers, .int .i64 s.most, .slice A7 s.shores.length c7, .slice A8 s.currents.length c8] 25)).alloc (.cells #[.int .i64 v.speed, .int .i64 v.dive, .int .i64 v.use.f0, .int .i64 v.use.f1, .int .i64 v.drift.f0, .int .i64 v.drift.f1, .int .i64 v.reserve] 41)).alloc (.cells #[.int .i64 x.f0.f0, .int .i64 x.f0.f1, .int .i64 x.f1.f0, .int .i64 x.f1.f1] 29)) (.cells #[.int .i64 p.f0.f0.f0, .int .i64 p.f0.f0.f1, .int .i64 p.f0.f1.f0, .int .i64 p.f0.f1.f1, .int .i64 p.f1, .int .i64 p.f2] 44); first | exact h_ | (simp only [World.size_alloc] at h_; exact h_))
 have mB : Below w.heap.size w ((((w.alloc (.cells #[.int .i64 s.nx, .int .i64 s.ny, .int .i64 s.cell, .int .i64 s.slot, .int .i64 s.slots, .int .i64 s.layers, .int .i64 s.most, .slice A7 s.shores.length c7, .slice A8 s.currents.length c8] 25)).alloc (.cells #[.int .i64 v.speed, .int .i64 v.dive, .int .i64 v.use.f0, .int .i64 v.use.f1, .int .i64 v.drift.f0, .int .i64 v.drift.f1, .int .i64 v.reserve] 41)).alloc (.cells #[.int .i64 x.f0.f0, .int .i64 x.f0.f1, .int .i64 x.f1.f0, .int .i64 x.f1.f1] 29)).alloc (.cells #[.int .i64 p.f0.f0.f0, .int .i64 p.f0.f0.f1, .int .i64 p.f0.f1.f0, .int .i64 p.f0.f1.f1, .int .i64 p.f1, .int .i64 p.f2] 44)) := (below_alloc (below_alloc (below_alloc (below_alloc (Below.refl w.heap.size w) _) _) _) _)
 have hsz_ : w.heap.size ≤ w.heap.size := Nat.le_refl _
 generalize hW_ : ((((w.alloc (.cells #[.int .i64 s.nx, .int .i64 s.ny, .int .i64 s.cell, .int .i64 s.slot, .int .i64 s.slots, .int .i64 s.layers, .int .i64 s.most, .slice A7 s.shores.length c7, .slice A8 s.currents.length c8] 25)).alloc (.cells #[.int .i64 v.speed, .int .i64 v.dive, .int .i64 v.use.f0, .int .i64 v.use.f1, .int .i64 v.drift.f0, .int .i64 v.drift.f1, .int .i64 v.reserve] 41)).alloc (.cells #[.int .i64 x.f0.f0, .int .i64 x.f0.f1, .int .i64 x.f1.f0, .int .i64 x.f1.f1] 29)).alloc (.cells #[.int .i64 p.f0.f0.f0, .int .i64 p.f0.f0.f1, .int .i64 p.f0.f1.f0, .int .i64 p.f0.f1.f1, .int .i64 p.f1, .int .i64 p.f2] 44)) = W1 at m6 m7 m8 m10 mB ⊢
 clear hW_
 generalize hg6 : w.heap.size = g6 at m6 m7 m8 m10 ⊢
 have hG6 : w.heap.size ≤ g6 := by omega
 generalize hg7 : g6 + 1 = g7 at m7 m8 m10 ⊢
 have hn_6_7 : g6 ≠ g7 := by omega
 have hn_7_6 : g7 ≠ g6 := hn_6_7.symm
 have hG7 : w.heap.size ≤ g7 := by omega
 generalize hg8 : g7 + 1 = g8 at m8 m10 ⊢
 have hn_6_8 : g6 ≠ g8 := by omega
 have hn_7_8 : g7 ≠ g8 := by omega
 have hn_8_6 : g8 ≠ g6 := hn_6_8.symm
 have hn_8_7 : g8 ≠ g7 := hn_7_8.symm
 have hG8 : w.heap.size ≤ g8 := by omega
 generalize hg10 : g8 + 1 = g10 at m10 ⊢
 have hn_6_10 : g6 ≠ g10 := by omega
 have hn_7_10 : g7 ≠ g10 := by omega
 have hn_8_10 : g8 ≠ g10 := by omega
 have hn_10_6 : g10 ≠ g6 := hn_6_10.symm
 have hn_10_7 : g10 ≠ g7 := hn_7_10.symm
 have hn_10_8 : g10 ≠ g8 := hn_8_10.symm
 have hG10 : w.heap.size ≤ g10 := by omega
 clear hsz_
 try clear hg10
 try clear hg8
 try clear hg7
 try clear hg6
 have hs_W1 : w.heap.size ≤ W1.heap.size := mB.size
 obtain ⟨c6_0, c6_1, c6_2, c6_3, c6_4, c6_5, c6_6, c6_7, c6_8⟩ := zcs9 m6
 obtain ⟨c7_0, c7_1, c7_2, c7_3, c7_4, c7_5, c7_6⟩ := zcs7 m7
 obtain ⟨c8_0, c8_1, c8_2, c8_3⟩ := zcs4 m8
 obtain ⟨c10_0, c10_1, c10_2, c10_3, c10_4, c10_5⟩ := zcs6 m10
 go_wp2_with fail
 clear c6_0 c6_1 c6_2 c6_3 c6_4 c6_5 c6_6 c6_7 c6_8 c7_0 c7_1 c7_2 c7_3 c7_4 c7_5 c7_6 c8_0 c8_1 c8_2 c8_3 c10_0 c10_1 c10_2 c10_3 c10_4 c10_5
 have hcon := begin_any s v x t A7 A8 c7 c8 W1 h7 (Kd.C_below hC7 mB) h8 (Kd.C_below hC8 mB)
 (with_reducible refine hcon.mono ?_)
 clear hcon
 rintro e W2 ⟨ptr, rfl, hb, hpt⟩
 replace m6 := blk_below m6 hb
 replace m7 := blk_below m7 hb
 replace m8 := blk_below m8 hb
 replace m10 := blk_below m10 hb
 replace mB := below_step mB hb
 clear hb
 have hs_W2 : w.heap.size ≤ W2.heap.size := mB.size
 generalize hE_ : beginE s v x t = E0 at *
 have HE0 := Lib.hid hE_
 clear hE_
 by_cases h0 : E0 = 0
 case neg =>
  have HZ := Lib.hid (HX.out.trans (if_pos h0))
  have hd1 : (E0 == 0) = false := beq_eq_false_iff_ne.2 h0
  have hd2 : (E0 != 0) = true := by rw [bne, hd1]; rfl
  clear h0 hpt HX
  go_wp2
  go_ret2
  exact ⟨_, zq21, zq38, mB⟩
 case pos =>
  have HX2 := Lib.hid (HX.out.trans (if_neg (fun h => h h0)))
  clear HX
  have hb0 := HBG.out.symm.trans h0
  obtain ⟨ht0, hp0⟩ := ite_ne_zero hb0
  obtain ⟨hbx, htt0, htt1⟩ := place_ok hp0
  obtain ⟨hSV, hVN⟩ := tripE_ok ht0
  rcases hpt with ⟨_, g, rfl, hg, hT⟩ | ⟨hbad, _⟩
  case inr => exact absurd ht0 hbad
  case inl =>
   subst h0
   clear hb0 ht0 hp0 HBG
   obtain ⟨c10_0, c10_1, c10_2, c10_3, c10_4, c10_5⟩ := zcs6 m10
   go_wp2_with fail
   clear c10_0 c10_1 c10_2 c10_3 c10_4 c10_5
   skip
   have hcon := glider_validPickup.calls 4 p.f0.f0.f0 p.f0.f0.f1 p.f0.f1.f0 p.f0.f1.f1 p.f1 p.f2 _ W2 (pick_some p)
   (with_reducible refine hcon.mono ?_)
   clear hcon
   rintro e W3 ⟨rfl, hb⟩
   replace hT := hT.below hb
   replace m6 := blk_below m6 hb
   replace m7 := blk_below m7 hb
   replace m8 := blk_below m8 hb
   replace m10 := blk_below m10 hb
   replace mB := below_step mB hb
   clear hb
   have hs_W3 : w.heap.size ≤ W3.heap.size := mB.size
   cases hpk : pickB p with
   | false =>
    have HZ := Lib.hid (HX2.out.trans (if_pos hpk))
    clear hpk HX2
    go_wp2
    go_ret2
    exact ⟨_, zq21, zq38, mB⟩
   | true =>
    have HX3 := Lib.hid (HX2.out.trans (if_neg (by rw [hpk]; decide)))
    clear HX2 hpk
    by_cases hd : d < 1 ∨ d > 64
    case pos =>
     have HZ := Lib.hid (HX3.out.trans (if_pos hd))
     clear HX3
     by_cases hq : d < 1
     case pos =>
      clear hd
      go_wp2
      go_ret2
      exact ⟨_, zq21, zq38, mB⟩
     case neg =>
      have hq2 : d > 64 := by omega
      clear hd
      go_wp2
      go_ret2
      exact ⟨_, zq21, zq38, mB⟩
    case neg =>
     have HX4 := Lib.hid (HX3.out.trans (if_neg hd))
     clear HX3
     have hq : ¬ d < 1 := by omega
     have hq2 : ¬ d > 64 := by omega
     clear hd
     obtain ⟨m, rfl⟩ : ∃ m : Nat, d = m := ⟨d.toNat, by omega⟩
     rw [Int.toNat_natCast] at HX4
     obtain ⟨c8_0, c8_1, c8_2, c8_3⟩ := zcs4 m8
     go_wp2_with fail
     clear c8_0 c8_1 c8_2 c8_3
     skip
     have hcon := hulls_any g s v x t m W3 hT hSV hVN hbx htt0 htt1 (by omega)
     (with_reducible refine hcon.mono ?_)
     clear hcon
     rintro e W5 ⟨v0_, rfl, HR, hb⟩
     have hlen := hulls_len s v m x t []
     rw [List.length_nil, Nat.zero_add] at hlen
     generalize hullsI s v m x t [] = R at *
     replace HR := Kd.R_lower HR mB.size
     replace m6 := blk_below m6 hb
     replace m7 := blk_below m7 hb
     replace m8 := blk_below m8 hb
     replace m10 := blk_below m10 hb
     replace mB := below_step mB hb
     clear hb
     have hs_W5 : w.heap.size ≤ W5.heap.size := mB.size
     obtain ⟨l, E1⟩ := R
     dsimp only at *
     by_cases h1 : E1 = 0
     case neg =>
      have HZ := Lib.hid (HX4.out.trans (if_pos h1))
      have hd1 : (E1 == 0) = false := beq_eq_false_iff_ne.2 h1
      have hd2 : (E1 != 0) = true := by rw [bne, hd1]; rfl
      clear h1 HX4
      go_wp2
      go_ret2
      exact ⟨_, zq21, zq38, mB⟩
     case pos =>
      have HX5 := Lib.hid (HX4.out.trans (if_neg (fun h => h h1)))
      clear HX4
      subst h1
      obtain ⟨A_, c_, rfl, hc_, hC_⟩ := Kd.R_reads HR
      obtain ⟨c7_0, c7_1, c7_2, c7_3, c7_4, c7_5, c7_6⟩ := zcs7 m7
      obtain ⟨c10_0, c10_1, c10_2, c10_3, c10_4, c10_5⟩ := zcs6 m10
      go_wp2_with fail
      clear c7_0 c7_1 c7_2 c7_3 c7_4 c7_5 c7_6 c10_0 c10_1 c10_2 c10_3 c10_4 c10_5
      skip
      have hcon := glider_fetchedAny.calls 66 v.speed v.dive v.use.f0 v.use.f1 v.drift.f0 v.drift.f1 v.reserve t A_ c_ l p.f0.f0.f0 p.f0.f0.f1 p.f0.f1.f0 p.f0.f1.f1 p.f1 p.f2 _ W5 hC_ hc_ (fetA_some v p l t (by omega) hVN.dive htt0 htt1)
      (with_reducible refine hcon.mono ?_)
      clear hcon
      rintro e W6 ⟨rfl, hb⟩
      replace HR := Kd.R_below HR hb
      replace m6 := blk_below m6 hb
      replace m7 := blk_below m7 hb
      replace m8 := blk_below m8 hb
      replace m10 := blk_below m10 hb
      replace mB := below_step mB hb
      clear hb
      cases hf : fetA v.dive p l t with
      | true =>
       have HZ := Lib.hid (HX5.out.trans (if_pos hf))
       clear hf HX5
       go_wp2
       go_ret2
       exact ⟨_, zq21, zq38, mB⟩
      | false =>
       have HZ := Lib.hid (HX5.out.trans (if_neg (by rw [hf]; decide)))
       clear hf HX5
       go_wp2
       go_ret2
       exact ⟨_, zq21, by rw [HZ.out]; exact HR, mB⟩
end Go.Proofs.Ythglkoddmpicdaa.Gl
end
section
/- The contracts of exported functions, as the printed texts ask for them. -/
namespace Go.Proofs.Ythglkoddmpicdaa.Pr
open Go.RowKit Go.Proofs.YthglkoddmpicdaaW.PrintWords Go.Proofs.YthglkoddmpicdaaW.PrintLast Go.Proofs.YthglkoddmpicdaaW.PrintMore Go.Proofs.Ythglkoddmpicdaa.Gl
set_option linter.unusedVariables false
def glider_Never.f (a0_0 : Int) (a0_1 : Int) (a0_2 : Int) (a0_3 : Int) (a0_4 : Int) (a0_5 : Int) (a0_6 : Int) (l0_7 : List Bool) (l0_8 : List (S33)) (a1_0 : Int) (a1_1 : Int) (a1_2 : Int) (a1_3 : Int) (a1_4 : Int) (a1_5 : Int) (a1_6 : Int) (a2_0 : Int) (a2_1 : Int) (a2_2 : Int) (a2_3 : Int) (a3 : Int) (a4_0 : Int) (a4_1 : Int) (a4_2 : Int) (a4_3 : Int) (a4_4 : Int) (a4_5 : Int) (a5 : Int) : Option ((List (S29)) × Int) := some (NeverX ⟨a0_0, a0_1, a0_2, a0_3, a0_4, a0_5, a0_6, l0_7, l0_8⟩ ⟨a1_0, a1_1, ⟨a1_2, a1_3⟩, ⟨a1_4, a1_5⟩, a1_6⟩ ⟨⟨a2_0, a2_1⟩, ⟨a2_2, a2_3⟩⟩ a3 ⟨⟨⟨a4_0, a4_1⟩, ⟨a4_2, a4_3⟩⟩, a4_4, a4_5⟩ a5)
theorem glider_Never.calls (a0_0 : Int) (a0_1 : Int) (a0_2 : Int) (a0_3 : Int) (a0_4 : Int) (a0_5 : Int) (a0_6 : Int) (A0_7 : Option Addr) (c0_7 : Nat) (l0_7 : List Bool) (A0_8 : Option Addr) (c0_8 : Nat) (l0_8 : List (S33)) (a1_0 : Int) (a1_1 : Int) (a1_2 : Int) (a1_3 : Int) (a1_4 : Int) (a1_5 : Int) (a1_6 : Int) (a2_0 : Int) (a2_1 : Int) (a2_2 : Int) (a2_3 : Int) (a3 : Int) (a4_0 : Int) (a4_1 : Int) (a4_2 : Int) (a4_3 : Int) (a4_4 : Int) (a4_5 : Int) (a5 : Int) (r1 : List (S29)) (r2 : Int) (w : World) (hr0_7 : Kd.C Kd.bool w A0_7 l0_7.length l0_7) (hc0_7 : l0_7.length ≤ c0_7) (hr0_8 : Kd.C k33 w A0_8 l0_8.length l0_8) (hc0_8 : l0_8.length ≤ c0_8) (h : glider_Never.f a0_0 a0_1 a0_2 a0_3 a0_4 a0_5 a0_6 l0_7 l0_8 a1_0 a1_1 a1_2 a1_3 a1_4 a1_5 a1_6 a2_0 a2_1 a2_2 a2_3 a3 a4_0 a4_1 a4_2 a4_3 a4_4 a4_5 a5 = some (r1, r2)) :
  Calls Try.prog 46 #[.agg #[.int .i64 a0_0, .int .i64 a0_1, .int .i64 a0_2, .int .i64 a0_3, .int .i64 a0_4, .int .i64 a0_5, .int .i64 a0_6, .slice A0_7 l0_7.length c0_7, .slice A0_8 l0_8.length c0_8], .agg #[.int .i64 a1_0, .int .i64 a1_1, .int .i64 a1_2, .int .i64 a1_3, .int .i64 a1_4, .int .i64 a1_5, .int .i64 a1_6], .agg #[.int .i64 a2_0, .int .i64 a2_1, .int .i64 a2_2, .int .i64 a2_3], .int .i64 a3, .agg #[.int .i64 a4_0, .int .i64 a4_1, .int .i64 a4_2, .int .i64 a4_3, .int .i64 a4_4, .int .i64 a4_5], .int .i64 a5] w fun e w' => ∃ v0_ : Value, e = .returned (.tuple #[v0_, .int .i64 r2]) ∧ Kd.R k29 29 w' w.heap.size (fun _ => True) v0_ r1 ∧ Below w.heap.size w w' := by
 have e_ := Option.some.inj h
 have q_ := Never_any ⟨a0_0, a0_1, a0_2, a0_3, a0_4, a0_5, a0_6, l0_7, l0_8⟩ ⟨a1_0, a1_1, ⟨a1_2, a1_3⟩, ⟨a1_4, a1_5⟩, a1_6⟩ ⟨⟨a2_0, a2_1⟩, ⟨a2_2, a2_3⟩⟩ a3 ⟨⟨⟨a4_0, a4_1⟩, ⟨a4_2, a4_3⟩⟩, a4_4, a4_5⟩ a5 A0_7 A0_8 c0_7 c0_8 w hc0_7 hr0_7 hc0_8 hr0_8
 rw [e_] at q_
 exact q_
end Go.Proofs.Ythglkoddmpicdaa.Pr
end
section
/- The contracts of exported functions, as the printed texts ask for them. -/
namespace Go.Proofs.Ythglkoddmpicdaa.Pr
open Go.RowKit Go.Proofs.YthglkoddmpicdaaW.PrintWords Go.Proofs.YthglkoddmpicdaaW.PrintLast Go.Proofs.YthglkoddmpicdaaW.PrintMore Go.Proofs.Ythglkoddmpicdaa.Gl
set_option linter.unusedVariables false
def glider_Run.f (a0_0 : Int) (a0_1 : Int) (a0_2 : Int) (a0_3 : Int) (a0_4 : Int) (a0_5 : Int) (a0_6 : Int) (l0_7 : List Bool) (l0_8 : List (S33)) (a1_0 : Int) (a1_1 : Int) (a1_2 : Int) (a1_3 : Int) (a1_4 : Int) (a1_5 : Int) (a1_6 : Int) (a2_0 : Int) (a2_1 : Int) (a2_2 : Int) (a2_3 : Int) (a3 : Int) (l4 : List (S76)) : Option ((List (S29)) × Int × Int) := some (RunX ⟨a0_0, a0_1, a0_2, a0_3, a0_4, a0_5, a0_6, l0_7, l0_8⟩ ⟨a1_0, a1_1, ⟨a1_2, a1_3⟩, ⟨a1_4, a1_5⟩, a1_6⟩ ⟨⟨a2_0, a2_1⟩, ⟨a2_2, a2_3⟩⟩ a3 l4)
theorem glider_Run.calls (a0_0 : Int) (a0_1 : Int) (a0_2 : Int) (a0_3 : Int) (a0_4 : Int) (a0_5 : Int) (a0_6 : Int) (A0_7 : Option Addr) (c0_7 : Nat) (l0_7 : List Bool) (A0_8 : Option Addr) (c0_8 : Nat) (l0_8 : List (S33)) (a1_0 : Int) (a1_1 : Int) (a1_2 : Int) (a1_3 : Int) (a1_4 : Int) (a1_5 : Int) (a1_6 : Int) (a2_0 : Int) (a2_1 : Int) (a2_2 : Int) (a2_3 : Int) (a3 : Int) (A4 : Option Addr) (c4 : Nat) (l4 : List (S76)) (r1 : List (S29)) (r2 : Int) (r3 : Int) (w : World) (hr0_7 : Kd.C Kd.bool w A0_7 l0_7.length l0_7) (hc0_7 : l0_7.length ≤ c0_7) (hr0_8 : Kd.C k33 w A0_8 l0_8.length l0_8) (hc0_8 : l0_8.length ≤ c0_8) (hr4 : Kd.C k76 w A4 l4.length l4) (hc4 : l4.length ≤ c4) (h : glider_Run.f a0_0 a0_1 a0_2 a0_3 a0_4 a0_5 a0_6 l0_7 l0_8 a1_0 a1_1 a1_2 a1_3 a1_4 a1_5 a1_6 a2_0 a2_1 a2_2 a2_3 a3 l4 = some (r1, r2, r3)) :
  Calls Try.prog 43 #[.agg #[.int .i64 a0_0, .int .i64 a0_1, .int .i64 a0_2, .int .i64 a0_3, .int .i64 a0_4, .int .i64 a0_5, .int .i64 a0_6, .slice A0_7 l0_7.length c0_7, .slice A0_8 l0_8.length c0_8], .agg #[.int .i64 a1_0, .int .i64 a1_1, .int .i64 a1_2, .int .i64 a1_3, .int .i64 a1_4, .int .i64 a1_5, .int .i64 a1_6], .agg #[.int .i64 a2_0, .int .i64 a2_1, .int .i64 a2_2, .int .i64 a2_3], .int .i64 a3, .slice A4 l4.length c4] w fun e w' => ∃ v0_ : Value, e = .returned (.tuple #[v0_, .int .i64 r2, .int .i64 r3]) ∧ Kd.R k29 29 w' w.heap.size (fun _ => True) v0_ r1 ∧ Below w.heap.size w w' := by
 have e_ := Option.some.inj h
 have q_ := Run_any ⟨a0_0, a0_1, a0_2, a0_3, a0_4, a0_5, a0_6, l0_7, l0_8⟩ ⟨a1_0, a1_1, ⟨a1_2, a1_3⟩, ⟨a1_4, a1_5⟩, a1_6⟩ ⟨⟨a2_0, a2_1⟩, ⟨a2_2, a2_3⟩⟩ a3 A4 c4 l4 A0_7 A0_8 c0_7 c0_8 w hc0_7 hr0_7 hc0_8 hr0_8 hr4 hc4
 rw [e_] at q_
 exact q_
end Go.Proofs.Ythglkoddmpicdaa.Pr
end
section
/- At, as the program answers. -/
namespace Go.Proofs.Ythglkoddmpicdaa.Gl
open Go.RowKit Go.Shelf Go.Proofs.YthglkoddmpicdaaW.PrintWords Go.Proofs.YthglkoddmpicdaaW.PrintLast Go.Proofs.YthglkoddmpicdaaW.PrintMore Go.Proofs.Ythglkoddmpicdaa.Pr Go.Proofs.YthglkoddmpicdaaW.Round
set_option linter.unusedVariables false
set_option linter.unusedSimpArgs false
attribute [local go_sem] max2_int min2_int max_two min_two max_four
end Go.Proofs.Ythglkoddmpicdaa.Gl
end
section
/- The contracts of exported functions, as the printed texts ask for them. -/
namespace Go.Proofs.Ythglkoddmpicdaa.Pr
open Go.RowKit Go.Proofs.YthglkoddmpicdaaW.PrintWords Go.Proofs.YthglkoddmpicdaaW.PrintLast Go.Proofs.YthglkoddmpicdaaW.PrintMore Go.Proofs.Ythglkoddmpicdaa.Gl
set_option linter.unusedVariables false
def glider_CheckSea.f (a0_0 : Int) (a0_1 : Int) (a0_2 : Int) (a0_3 : Int) (a0_4 : Int) (a0_5 : Int) (a0_6 : Int) (l0_7 : List Bool) (l0_8 : List (S33)) : Option (Int) := some (seaE ⟨a0_0, a0_1, a0_2, a0_3, a0_4, a0_5, a0_6, l0_7, l0_8⟩)
theorem glider_CheckSea.calls (a0_0 : Int) (a0_1 : Int) (a0_2 : Int) (a0_3 : Int) (a0_4 : Int) (a0_5 : Int) (a0_6 : Int) (A0_7 : Option Addr) (c0_7 : Nat) (l0_7 : List Bool) (A0_8 : Option Addr) (c0_8 : Nat) (l0_8 : List (S33)) (r : Int) (w : World) (hr0_7 : Kd.C Kd.bool w A0_7 l0_7.length l0_7) (hc0_7 : l0_7.length ≤ c0_7) (hr0_8 : Kd.C k33 w A0_8 l0_8.length l0_8) (hc0_8 : l0_8.length ≤ c0_8) (h : glider_CheckSea.f a0_0 a0_1 a0_2 a0_3 a0_4 a0_5 a0_6 l0_7 l0_8 = some r) :
  Calls Try.prog 50 #[.agg #[.int .i64 a0_0, .int .i64 a0_1, .int .i64 a0_2, .int .i64 a0_3, .int .i64 a0_4, .int .i64 a0_5, .int .i64 a0_6, .slice A0_7 l0_7.length c0_7, .slice A0_8 l0_8.length c0_8]] w fun e w' => e = .returned (.int .i64 r) ∧ Below w.heap.size w w' := by
 cases h
 exact sea_any ⟨a0_0, a0_1, a0_2, a0_3, a0_4, a0_5, a0_6, l0_7, l0_8⟩ A0_7 A0_8 c0_7 c0_8 w hc0_7 hr0_7 hc0_8 hr0_8

end Go.Proofs.Ythglkoddmpicdaa.Pr
end
section
/- Is a run among some too long: what the program answers. -/
namespace Go.Proofs.Ythglkoddmpicdaa.Gl
open Go.RowKit Go.Shelf Go.Proofs.YthglkoddmpicdaaW.PrintWords Go.Proofs.YthglkoddmpicdaaW.PrintLast Go.Proofs.YthglkoddmpicdaaW.PrintMore Go.Proofs.Ythglkoddmpicdaa.Pr Go.Proofs.YthglkoddmpicdaaW.Round
set_option linter.unusedVariables false
set_option linter.unusedSimpArgs false
attribute [local go_sem] max2_int min2_int max_two min_two max_four
set_option maxRecDepth 100000 in
set_option maxHeartbeats 2000000 in
theorem v1_any (n c : Nat) (A : Option Addr) (w : World) : Calls Try.prog 71 #[.slice A n c] w (RetB (.bool (decide (64 < n))) w) := by
 by_cases h : 64 < n
 ·have hd : decide (64 < (n : Int)) = true := decide_eq_true (by omega)
  have HD := Lib.hid (decide_eq_true h)
  clear h
  go_enter Try.func71, Try.ntmps71
  go_wp2
  go_ret
  exact ⟨by rw [HD.out]; rfl, Below.refl _ _⟩
 ·have hd : decide (64 < (n : Int)) = false := decide_eq_false (by omega)
  have HD := Lib.hid (decide_eq_false h)
  clear h
  go_enter Try.func71, Try.ntmps71
  go_wp2
  go_ret
  exact ⟨by rw [HD.out]; rfl, Below.refl _ _⟩
set_option maxRecDepth 100000 in
set_option maxHeartbeats 2000000 in
theorem idx45_any (A : Option Addr) (c : Nat) (l : List (List S29)) (w : World) (hC : Kd.C (Kd.slice 29 k29) w A l.length l) (hc : l.length ≤ c) :
  Calls Try.prog 126 #[.slice A l.length c, .func (.func 71) #[] #[]] w (RetB (.int .i64 (idxI (fun x => decide (64 < x.length)) l)) w) := by
 have eg : ∀ args w, (callFunc 71 args).run Try.prog w = .ok (.enter 71 args) w := enters_of Try.func71 zq3 rfl
 have hb := hC.2.1
 have HI : Hid (idxI (fun x => decide (64 < x.length)) l = match l.findIdx? (fun x => decide (64 < x.length)) with | none => -1 | some i => (i : Int)) := Lib.hid rfl
 go_enter Try.func126, Try.ntmps126
 go_wp2
 go_loopw [8] (fun i wr => ∃ (k : Nat), k ≤ l.length ∧ i = .int .i64 k ∧ Hid ((l.take k).any (fun x => decide (64 < x.length)) = false) ∧ Below w.heap.size w wr) (fun i _ => l.length - (intOf i).toNat)
 case atStart => exact ⟨0, Nat.zero_le _, rfl, Lib.hid (by simp), Below.refl _ _⟩
 case round =>
  obtain ⟨k, hk, rfl, HA, mB⟩ := hrel
  by_cases hlt : k < l.length
  ·obtain ⟨ad, A0, c0, rfl, hx0, hc0, hC0⟩ := at_L9 hC k (by omega) (by omega)
   simp only [Int.toNat_natCast] at hx0
   clear hC0 hc0
   replace hx0 := (mB.cell (World.block_lt_of_cell? w _ hx0)).trans hx0
   have hlk : l[k]? = some (rd_L9 l (k : Int)) := by simp [rd_L9, List.getD_eq_getElem?_getD, hlt]
   have htk : l.take (k + 1) = l.take k ++ [rd_L9 l (k : Int)] := by rw [List.take_add_one, hlk]; rfl
   generalize rd_L9 l (k : Int) = x at *
   have HT := Lib.hid htk
   have HK := Lib.hid hlk
   clear htk hlk
   go_wp2_with fail
   have hcon := v1_any x.length c0 A0 wr
   (with_reducible refine hcon.mono ?_)
   clear hcon hx0
   rintro e W1 ⟨rfl, hb1⟩
   replace mB := below_step mB hb1
   clear hb1
   cases hbx : decide (64 < x.length) with
   | true =>
    have HE := Lib.hid (HI.out.trans (by rw [findIdx_at HK.out HA.out hbx]))
    clear hbx
    go_wp2
    go_ret
    exact ⟨by rw [HE.out]; rfl, mB⟩
   | false =>
    have HB := Lib.hid hbx
    clear hbx
    go_wp2
    go_roundw
    case rel => exact ⟨k + 1, by omega, by simp, Lib.hid zq19, mB⟩
    case measure => simp [intOf]; omega
  ·obtain rfl : k = l.length := by omega
   rw [List.take_length] at HA
   have hn : l.findIdx? (fun x => decide (64 < x.length)) = none := by
    rw [List.findIdx?_eq_none_iff]
    intro x hx
    have := List.any_eq_false.1 HA.out x hx
    simpa using this
   have HE := Lib.hid (HI.out.trans (by rw [hn]))
   clear hn
   go_wp2
   go_ret
   exact ⟨by rw [HE.out]; rfl, mB⟩
set_option maxHeartbeats 1000000 in
theorem cont45_any (A : Option Addr) (c : Nat) (l : List (List S29)) (w : World) (hC : Kd.C (Kd.slice 29 k29) w A l.length l) (hc : l.length ≤ c) :
  Calls Try.prog 70 #[.slice A l.length c, .func (.func 71) #[] #[]] w (RetB (.bool (l.any (fun x => decide (64 < x.length)))) w) := by
 have hcon := idx45_any A c l w hC hc
 have hx := idxI_any (fun x => decide (64 < x.length)) l
 generalize idxI (fun x => decide (64 < x.length)) l = I at *
 generalize l.any (fun x => decide (64 < x.length)) = R at *
 go_enter Try.func70, Try.ntmps70
 go_wp2_with fail
 (with_reducible refine hcon.mono ?_)
 clear hcon
 rintro e W1 ⟨rfl, mB⟩
 rcases hx with ⟨h1, h2⟩ | ⟨h1, h2⟩
 ·have HA := Lib.hid h2
  have hd : decide (0 ≤ I) = false := decide_eq_false (by omega)
  clear h1 h2
  go_wp2
  go_ret
  exact ⟨by rw [HA.out]; rfl, mB⟩
 ·have HA := Lib.hid h2
  have hd : decide (0 ≤ I) = true := decide_eq_true (by omega)
  clear h1 h2
  go_wp2
  go_ret
  exact ⟨by rw [HA.out]; rfl, mB⟩
end Go.Proofs.Ythglkoddmpicdaa.Gl
end
section
/- A call with a function that is known, as the printed text asks for it. -/
namespace Go.Proofs.Ythglkoddmpicdaa.Pr
open Go.RowKit Go.Proofs.YthglkoddmpicdaaW.PrintWords Go.Proofs.YthglkoddmpicdaaW.PrintLast Go.Proofs.YthglkoddmpicdaaW.PrintMore Go.Proofs.Ythglkoddmpicdaa.Gl
set_option linter.unusedVariables false
def api_Box_70.f (l0 : List (List (S29))) : Option (Bool) := some (l0.any (fun x => decide (64 < x.length)))
theorem api_Box_70.calls (A0 : Option Addr) (c0 : Nat) (l0 : List (List (S29))) (r : Bool) (w : World) (hr0 : Kd.C (Kd.slice 29 k29) w A0 l0.length l0) (hc0 : l0.length ≤ c0) (h : api_Box_70.f l0 = some r) :
  Calls Try.prog 70 #[.slice A0 l0.length c0, .func (.func 71) #[] #[]] w fun e w' => e = .returned (.bool r) ∧ Below w.heap.size w w' := by
 cases h
 exact cont45_any A0 c0 l0 w hr0 hc0
end Go.Proofs.Ythglkoddmpicdaa.Pr
end
