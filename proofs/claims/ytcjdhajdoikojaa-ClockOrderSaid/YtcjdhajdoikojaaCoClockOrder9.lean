/- Part 9 of the proof of ClockOrder: what the functions compute. No condition. -/
import Derived.Test.YtcjdhajdoikojaaCoClockOrder3
import Derived.Test.YtcjdhajdoikojaaCoClockOrder8
import Derived.Test.YtcjdhajdoikojaaCoClockOrder7
set_option linter.unusedVariables false
set_option linter.unusedSimpArgs false
section
/- The true time of a stamp, as the program computes it. -/
namespace Go.Proofs.Ytcjdhajdoikojaa.Clk
open Go.RowKit Go.Shelf Go.Proofs.YtcjdhajdoikojaaW.PrintWords Go.Proofs.YtcjdhajdoikojaaW.PrintLast Go.Proofs.YtcjdhajdoikojaaW.PrintMore Go.Proofs.Ytcjdhajdoikojaa.Pr Go.Proofs.YtcjdhajdoikojaaW.Round
set_option linter.unusedVariables false
set_option linter.unusedSimpArgs false

/-- What the parent of a clock shows. -/
def upI (c : S30) (a : Int × Int) : Int × Int := (wrap64 (a.1 + (atI c.f1 (c.f2.map (anchorI c.f1)) a.1).1), wrap64 (a.2 + (atI c.f1 (c.f2.map (anchorI c.f1)) a.2).2))
def timeI (cs : List S30) : Nat → Int → Int × Int → Int × Int
 | 0, _, a => a
 | n + 1, i, a => if i = -1 then a else timeI cs n (rd_T30 cs i).f0 (upI (rd_T30 cs i) a)
theorem timeI_end (cs : List S30) (n : Nat) (a : Int × Int) : timeI cs n (-1) a = a := by
 cases n with
 | zero => rfl
 | succ n => rw [timeI, if_pos rfl]
def timeE (cs : List S30) (k t : Int) : Int := if k < 0 ∨ (cs.length : Int) ≤ k ∨ okT t = false then 3 else 0
def timeV (cs : List S30) (k t : Int) : Int × Int := if k < 0 ∨ (cs.length : Int) ≤ k ∨ okT t = false then (0, 0) else timeI cs cs.length k (t, t)
theorem faceE_par {par rate : Int} {xs : List S46} (h : faceE par rate xs = 0) : -1 ≤ par := by
 unfold faceE at h
 by_cases hl : xs.length < 1 ∨ xs.length > 64
 ·rw [if_pos hl] at h
  cases h
 ·rw [if_neg hl] at h
  by_cases hp : par < -1 ∨ rate < 0 ∨ rate > 1000000
  ·rw [if_pos hp] at h
   cases h
  ·omega
theorem houseE_zero {cs : List S30} (h : houseE cs = 0) : (1 ≤ cs.length ∧ cs.length ≤ 32) ∧ (∀ c ∈ cs, cE c = 0) ∧ parOK cs = true ∧ cs.any badC = false := by
 unfold houseE at h
 by_cases hl : cs.length < 1 ∨ cs.length > 32
 ·rw [if_pos hl] at h
  cases h
 rw [if_neg hl] at h
 by_cases h1 : firstErr cs ≠ 0
 ·rw [if_pos h1] at h
  exact absurd h h1
 rw [if_neg h1] at h
 by_cases h2 : parOK cs = false
 ·rw [if_pos h2] at h
  cases h
 rw [if_neg h2] at h
 by_cases h3 : cs.any badC = true
 ·rw [if_pos h3] at h
  cases h
 refine ⟨by omega, ?_, by simpa using h2, by simpa using h3⟩
 intro c hc
 by_cases h0 : cE c = 0
 ·exact h0
 ·exfalso
  apply h1
  unfold firstErr
  cases hf : (cs.map cE).find? (fun e => decide (e ≠ 0)) with
  | none =>
   have := List.find?_eq_none.1 hf _ (List.mem_map.2 ⟨c, hc, rfl⟩)
   simp [h0] at this
  | some e => simpa using List.find?_some hf
theorem isTime_any (t : Int) (w : World) : Calls Try.prog 71 #[.int .i64 t] w fun e w' => e = .returned (.bool (okT t)) ∧ Below w.heap.size w w' := (clock_isTime.calls _ _ w (isTime_some t)).mono fun e w' h => ⟨h.1, h.2.below⟩
def TimePost (cs : List S30) (k t : Int) (w : World) (e : Ending) (w' : World) : Prop := e = .returned (.tuple #[.agg #[.int .i64 (timeV cs k t).1, .int .i64 (timeV cs k t).2], .int .i64 (timeE cs k t)]) ∧ Below w.heap.size w w'
set_option maxRecDepth 100000 in
set_option maxHeartbeats 4000000 in
theorem time_any (base : Nat) (v : Value) (cs : List S30) (k t : Int) (w : World) (hH : HouseAt w base v cs) (hE : houseE cs = 0) :
  Calls Try.prog 55 #[v, .agg #[.int .i64 k, .int .i64 t]] w (TimePost cs k t w) := by
 have hu35 := Try.underlying35
 have hu41 := Try.underlying41
 have hu109 := Try.underlying109
 have hfd0 : ∀ (x0_ x1_ : Value) (W_ : World), (Instr.field 35 (.agg #[x0_, x1_]) 0).run Try.prog W_ = .ok (x0_) W_ := fun _ _ W_ => by kernel_rfl
 have hfd1 : ∀ (x0_ x1_ : Value) (W_ : World), (Instr.field 35 (.agg #[x0_, x1_]) 1).run Try.prog W_ = .ok (x1_) W_ := fun _ _ W_ => by kernel_rfl
 obtain ⟨hn, hce, hpo, _⟩ := houseE_zero hE
 obtain ⟨A, c, rfl⟩ := hH.slice
 by_cases h1 : k < 0
 ·have hT : Hid (timeE cs k t = 3 ∧ timeV cs k t = (0, 0)) := Lib.hid ⟨by unfold timeE; rw [if_pos (.inl h1)], by unfold timeV; rw [if_pos (.inl h1)]⟩
  have dh10 : decide (k < 0) = true := decide_eq_true h1
  go_enter Try.func55, Try.ntmps55
  go_wp2
  have m3 : Blk ((w.alloc (.cells #[.int .i64 k, .int .i64 t] 41)).alloc (.cells #[.int .i64 0, .int .i64 0] 35)) (w.heap.size) #[.int .i64 k, .int .i64 t] 41 := (blk_alloc zq32 _)
  have m4 : Blk ((w.alloc (.cells #[.int .i64 k, .int .i64 t] 41)).alloc (.cells #[.int .i64 0, .int .i64 0] 35)) (w.heap.size + 1) #[.int .i64 0, .int .i64 0] 35 := zq33
  have mB : Below w.heap.size w ((w.alloc (.cells #[.int .i64 k, .int .i64 t] 41)).alloc (.cells #[.int .i64 0, .int .i64 0] 35)) := (below_alloc (below_alloc (Below.refl w.heap.size w) _) _)
  have hsz_ : w.heap.size ≤ w.heap.size := Nat.le_refl _
  generalize hW_ : ((w.alloc (.cells #[.int .i64 k, .int .i64 t] 41)).alloc (.cells #[.int .i64 0, .int .i64 0] 35)) = W1 at m3 m4 mB ⊢
  clear hW_
  generalize hg3 : w.heap.size = g3 at m3 m4 ⊢
  have hG3 : w.heap.size ≤ g3 := by omega
  generalize hg4 : g3 + 1 = g4 at m4 ⊢
  have hn_3_4 : g3 ≠ g4 := by omega
  have hn_4_3 : g4 ≠ g3 := hn_3_4.symm
  have hG4 : w.heap.size ≤ g4 := by omega
  clear hsz_
  try clear hg4
  try clear hg3
  have hs_W1 : w.heap.size ≤ W1.heap.size := mB.size
  exact bodyPost_ret (results_ct rfl _ _ g4 35 #[.int .i64 0, .int .i64 0] (0, 0) _ rfl m4 Try.underlying35 rfl zq1) rfl ⟨by rw [hT.out.1, hT.out.2]; rfl, mB⟩
 have dh10 : decide (k < 0) = false := decide_eq_false h1
 by_cases h2 : (cs.length : Int) ≤ k
 ·have hT : Hid (timeE cs k t = 3 ∧ timeV cs k t = (0, 0)) := Lib.hid ⟨by unfold timeE; rw [if_pos (.inr (.inl h2))], by unfold timeV; rw [if_pos (.inr (.inl h2))]⟩
  have dh20 : decide ((cs.length : Int) ≤ k) = true := decide_eq_true h2
  have dh21 : decide (k ≥ (cs.length : Int)) = true := decide_eq_true h2
  go_enter Try.func55, Try.ntmps55
  go_wp2
  have m3 : Blk ((w.alloc (.cells #[.int .i64 k, .int .i64 t] 41)).alloc (.cells #[.int .i64 0, .int .i64 0] 35)) (w.heap.size) #[.int .i64 k, .int .i64 t] 41 := (blk_alloc zq32 _)
  have m4 : Blk ((w.alloc (.cells #[.int .i64 k, .int .i64 t] 41)).alloc (.cells #[.int .i64 0, .int .i64 0] 35)) (w.heap.size + 1) #[.int .i64 0, .int .i64 0] 35 := zq33
  have mB : Below w.heap.size w ((w.alloc (.cells #[.int .i64 k, .int .i64 t] 41)).alloc (.cells #[.int .i64 0, .int .i64 0] 35)) := (below_alloc (below_alloc (Below.refl w.heap.size w) _) _)
  have hsz_ : w.heap.size ≤ w.heap.size := Nat.le_refl _
  generalize hW_ : ((w.alloc (.cells #[.int .i64 k, .int .i64 t] 41)).alloc (.cells #[.int .i64 0, .int .i64 0] 35)) = W1 at m3 m4 mB ⊢
  clear hW_
  generalize hg3 : w.heap.size = g3 at m3 m4 ⊢
  have hG3 : w.heap.size ≤ g3 := by omega
  generalize hg4 : g3 + 1 = g4 at m4 ⊢
  have hn_3_4 : g3 ≠ g4 := by omega
  have hn_4_3 : g4 ≠ g3 := hn_3_4.symm
  have hG4 : w.heap.size ≤ g4 := by omega
  clear hsz_
  try clear hg4
  try clear hg3
  have hs_W1 : w.heap.size ≤ W1.heap.size := mB.size
  exact bodyPost_ret (results_ct rfl _ _ g4 35 #[.int .i64 0, .int .i64 0] (0, 0) _ rfl m4 Try.underlying35 rfl zq1) rfl ⟨by rw [hT.out.1, hT.out.2]; rfl, mB⟩
 have dh20 : decide ((cs.length : Int) ≤ k) = false := decide_eq_false h2
 have dh21 : decide (k ≥ (cs.length : Int)) = false := decide_eq_false h2
 go_enter Try.func55, Try.ntmps55
 go_wp2_with fail
 have m3 : Blk ((w.alloc (.cells #[.int .i64 k, .int .i64 t] 41)).alloc (.cells #[.int .i64 0, .int .i64 0] 35)) (w.heap.size) #[.int .i64 k, .int .i64 t] 41 := (blk_alloc zq32 _)
 have m4 : Blk ((w.alloc (.cells #[.int .i64 k, .int .i64 t] 41)).alloc (.cells #[.int .i64 0, .int .i64 0] 35)) (w.heap.size + 1) #[.int .i64 0, .int .i64 0] 35 := zq33
 have mB : Below w.heap.size w ((w.alloc (.cells #[.int .i64 k, .int .i64 t] 41)).alloc (.cells #[.int .i64 0, .int .i64 0] 35)) := (below_alloc (below_alloc (Below.refl w.heap.size w) _) _)
 have hsz_ : w.heap.size ≤ w.heap.size := Nat.le_refl _
 generalize hW_ : ((w.alloc (.cells #[.int .i64 k, .int .i64 t] 41)).alloc (.cells #[.int .i64 0, .int .i64 0] 35)) = W1 at m3 m4 mB ⊢
 clear hW_
 generalize hg3 : w.heap.size = g3 at m3 m4 ⊢
 have hG3 : w.heap.size ≤ g3 := by omega
 generalize hg4 : g3 + 1 = g4 at m4 ⊢
 have hn_3_4 : g3 ≠ g4 := by omega
 have hn_4_3 : g4 ≠ g3 := hn_3_4.symm
 have hG4 : w.heap.size ≤ g4 := by omega
 clear hsz_
 try clear hg4
 try clear hg3
 have hs_W1 : w.heap.size ≤ W1.heap.size := mB.size
 have hcon := isTime_any t W1
 (with_reducible refine hcon.mono ?_)
 clear hcon
 rintro e W2 ⟨rfl, hb⟩
 replace m3 := blk_below m3 hb
 replace m4 := blk_below m4 hb
 replace mB := below_step mB hb
 clear hb
 have hs_W2 : w.heap.size ≤ W2.heap.size := mB.size
 cases ho : okT t with
 | false =>
  obtain ⟨f4_0, f4_1⟩ := zfs2 m4
  obtain ⟨c4_0, c4_1⟩ := zcs2 m4
  have hT : Hid (timeE cs k t = 3 ∧ timeV cs k t = (0, 0)) := Lib.hid ⟨by unfold timeE; rw [if_pos (.inr (.inr ho))], by unfold timeV; rw [if_pos (.inr (.inr ho))]⟩
  clear ho
  go_wp2
  exact bodyPost_ret (results_ct rfl _ _ g4 35 #[.int .i64 0, .int .i64 0] (0, 0) _ rfl (blk_put (blk_put m4 0 _ rfl) 1 _ rfl) Try.underlying35 rfl zq1) rfl ⟨by rw [hT.out.1, hT.out.2]; rfl, (mB.setCell hG4 _).setCell hG4 _⟩
 | true =>
  have hne_ : ¬ (k < 0 ∨ (cs.length : Int) ≤ k ∨ okT t = false) := by rw [ho]; simp; omega
  have hT : Hid (timeE cs k t = 0 ∧ timeV cs k t = timeI cs cs.length k (t, t)) := Lib.hid ⟨by unfold timeE; rw [if_neg hne_], by unfold timeV; rw [if_neg hne_]⟩
  clear hne_ ho
  obtain ⟨c3_0, c3_1⟩ := zcs2 m3
  have d3_0 : ∀ o_, (W2.alloc o_).cell? ⟨g3, 0, none⟩ = some (.int .i64 k) := fun o_ => (blk_cell (blk_alloc m3 o_) 0).trans rfl
  go_wp2_with fail
  clear c3_0 c3_1 d3_0
  have hl_3 := blk_lt m3
  have hl_4 := blk_lt m4
  have m6 : Blk (W2.alloc (.cells #[.int .i64 t, .int .i64 t] 35)) (W2.heap.size) #[.int .i64 t, .int .i64 t] 35 := (by have h_ := blk_new W2 (.cells #[.int .i64 t, .int .i64 t] 35); first | exact h_ | (simp only [World.size_alloc] at h_; exact h_))
  replace m3 : Blk (W2.alloc (.cells #[.int .i64 t, .int .i64 t] 35)) g3 #[.int .i64 k, .int .i64 t] 41 := (blk_alloc m3 _)
  replace m4 : Blk (W2.alloc (.cells #[.int .i64 t, .int .i64 t] 35)) g4 #[.int .i64 0, .int .i64 0] 35 := (blk_alloc m4 _)
  replace mB : Below w.heap.size w (W2.alloc (.cells #[.int .i64 t, .int .i64 t] 35)) := (below_alloc mB _)
  have hsz_ : w.heap.size ≤ W2.heap.size := hs_W2
  generalize hW_ : (W2.alloc (.cells #[.int .i64 t, .int .i64 t] 35)) = W3 at m3 m4 m6 mB ⊢
  clear hW_
  generalize hg6 : W2.heap.size = g6 at m6 ⊢
  have hn_3_6 : g3 ≠ g6 := by omega
  have hn_4_6 : g4 ≠ g6 := by omega
  have hn_6_3 : g6 ≠ g3 := hn_3_6.symm
  have hn_6_4 : g6 ≠ g4 := hn_4_6.symm
  have hG6 : w.heap.size ≤ g6 := by omega
  clear hsz_ hl_3 hl_4
  try clear hg6
  have hs_W3 : w.heap.size ≤ W3.heap.size := mB.size
  have hpar : ∀ j : Nat, j < cs.length → (-1 ≤ (rd_T30 cs j).f0 ∧ (rd_T30 cs j).f0 < (j : Int)) ∧ (rd_T30 cs j).f2.length ≤ 64 := by
   intro j hj
   have hm : rd_T30 cs (j : Int) ∈ cs := List.mem_of_getElem? (i := j) (by simp [rd_T30, List.getD_eq_getElem?_getD, hj])
   refine ⟨⟨faceE_par (show faceE _ _ _ = 0 from hce _ hm), ?_⟩, faceE_len (show faceE _ _ _ = 0 from hce _ hm)⟩
   exact of_decide_eq_true (List.all_eq_true.1 hpo j (List.mem_range.2 hj))
  have HP := Lib.hid hpar
  clear hpar hce hpo hE
  go_loopw [7] (fun v wr => ∃ (i lo hi : Int) (m : Nat), v = .int .i64 i ∧ -1 ≤ i ∧ i < (cs.length : Int) ∧ i < (m : Int) ∧ Hid (timeI cs m i (lo, hi) = timeI cs cs.length k (t, t)) ∧ Blk wr g3 #[.int .i64 k, .int .i64 t] 41 ∧ Blk wr g4 #[.int .i64 0, .int .i64 0] 35 ∧ Blk wr g6 #[.int .i64 lo, .int .i64 hi] 35 ∧ Below w.heap.size w wr) (fun v _ => (intOf v + 1).toNat)
  case atStart => exact ⟨k, t, t, cs.length, rfl, by omega, by omega, by omega, Lib.hid rfl, m3, m4, m6, mB⟩
  case round =>
   clear m3 m4 m6 mB
   obtain ⟨i, lo, hi, m, rfl, hi0, hi1, him, HT, m3, m4, m6, mB⟩ := hrel
   have hs_wr : w.heap.size ≤ wr.heap.size := mB.size
   by_cases hend : i = -1
   case pos =>
    subst hend
    rw [timeI_end] at HT
    obtain ⟨f4_0, f4_1⟩ := zfs2 m4
    obtain ⟨c4_0, c4_1⟩ := zcs2 m4
    obtain ⟨c6_0, c6_1⟩ := zcs2 m6
    go_wp2
    exact bodyPost_ret (results_ct rfl _ _ g4 35 #[.int .i64 lo, .int .i64 hi] (0, 0) _ rfl (blk_put (blk_put m4 0 _ rfl) 1 _ rfl) Try.underlying35 rfl zq1) rfl ⟨by rw [hT.out.1, hT.out.2, ← HT.out]; rfl, (mB.setCell hG4 _).setCell hG4 _⟩
   case neg =>
    have hd : (i != -1) = true := bne_iff_ne.2 hend
    obtain ⟨ad, g, e_, hx0, hf⟩ := hH.get i (by omega) (by omega)
    cases e_
    have hx := (mB.cell (World.block_lt_of_cell? w _ hx0)).trans hx0
    have hp := HP.out i.toNat (by omega)
    rw [Int.toNat_of_nonneg (by omega)] at hp
    have hm1 : ∃ m1, m = m1 + 1 := ⟨m - 1, by omega⟩
    obtain ⟨m, rfl⟩ := hm1
    have ht : timeI cs m (rd_T30 cs i).f0 (upI (rd_T30 cs i) (lo, hi)) = timeI cs cs.length k (t, t) := by rw [← HT.out, timeI, if_neg hend]
    generalize rd_T30 cs i = x at *
    have hU : upI x (lo, hi) = (wrap64 (lo + (atI x.f1 (x.f2.map (anchorI x.f1)) lo).1), wrap64 (hi + (atI x.f1 (x.f2.map (anchorI x.f1)) hi).2)) := rfl
    rw [hU] at ht
    clear hU
    have hfl : (x.f2.map (anchorI x.f1)).length ≤ 1000 := by rw [List.length_map]; omega
    have hF := hf.at
    obtain ⟨u_, b_, hblk, _⟩ := hf
    have HK := Lib.hid hblk
    generalize x.f2.map (anchorI x.f1) = ys at *
    generalize x.f1 = r at *
    generalize x.f0 = par at *
    have HT2 := Lib.hid ht
    clear ht HT hblk hend
    have hj0 := eq_true (show 0 ≤ i by omega)
    have hj1 := eq_true hi1
    have q0 := (blk_cell (HK.out.below mB) 0).trans rfl
    go_wp2_with fail
    replace m3 := blk_drew m3
    replace m4 := blk_drew m4
    replace m6 := blk_drew m6
    replace mB := below_drew1 mB
    refine start_ (n := 18) (S := fun w' => w'.cell? ⟨g6, 0, none⟩ = some (.int .i64 lo) ∧ w'.cell? ⟨g6, 1, none⟩ = some (.int .i64 hi)) (ds := [17]) #[false, false, false, false, false, false, false, false, false, false, false, false, false, false, false, false, false, false] zq1 rfl rfl ⟨((blk_cell m6 0).trans rfl), ((blk_cell m6 1).trans rfl)⟩ (fun hHeld => ?_)
    generalize hWd : World.drew _ = Wx at *
    clear hWd
    refine zpz (i := 0) (N := some 46) zq1 ?_
    refine zpz (i := 2) (N := some 48) zq1 ?_
    refine zpz (i := 3) (N := some 49) zq1 ?_
    refine zpz (i := 8) (N := some 54) zq1 ?_
    refine zpz (i := 10) (N := some 56) zq1 ?_
    refine zpz (i := 11) (N := some 57) zq1 ?_
    refine ztz (i := 1) (N := some 47) zq1 hHeld ?_
    refine ztz (i := 4) (N := some 50) zq1 hHeld ?_
    refine ztz (i := 9) (N := some 55) zq1 hHeld ?_
    refine ztz (i := 12) (N := some 58) zq1 hHeld ?_
    refine one_ (i := 5) (N := some 51) #[true, true, true, true, true, true, false, false, true, true, true, true, true, false, false, false, false, false] rfl rfl zq1 (by decide) (fun K hK => ?_)
    have hcon_ := at_any g par r ys hfl lo Wx (hF.below mB)
    refine goes_ Try.func58 zq1 rfl #[.pointer (some ⟨g, 0, none⟩), .int .i64 lo] (by rfl) rfl rfl zq10 ?_
    with_reducible refine (hcon_).mono ?_
    rintro e w5 ⟨rfl, hb⟩
    refine ⟨_, rfl, ?_⟩
    clear hcon_
    replace m3 := blk_below m3 hb
    replace m4 := blk_below m4 hb
    replace m6 := blk_below m6 hb
    replace mB := below_step mB hb
    clear hb
    refine hK.out _ _ ⟨((blk_cell m6 0).trans rfl), ((blk_cell m6 1).trans rfl)⟩ (fun hHeld => ?_)
    clear hK K
    refine norm_ (by show Act.put _ (some 51) _ = _; simp only [Act.put, List.setIfInBounds_toArray, List.set_cons_zero, List.set_cons_succ, i64_w, i32_w]; rfl) ?_
    refine zpz (i := 6) (N := some 52) zq1 ?_
    refine zpz (i := 7) (N := some 53) zq1 ?_
    refine one_ (i := 13) (N := some 59) #[true, true, true, true, true, true, true, true, true, true, true, true, true, true, false, false, false, false] rfl rfl zq1 (by decide) (fun K hK => ?_)
    have hcon_ := at_any g par r ys hfl hi w5 (hF.below mB)
    refine goes_ Try.func58 zq1 rfl #[.pointer (some ⟨g, 0, none⟩), .int .i64 hi] (by rfl) rfl rfl zq10 ?_
    with_reducible refine (hcon_).mono ?_
    rintro e w13 ⟨rfl, hb⟩
    refine ⟨_, rfl, ?_⟩
    clear hcon_
    replace m3 := blk_below m3 hb
    replace m4 := blk_below m4 hb
    replace m6 := blk_below m6 hb
    replace mB := below_step mB hb
    clear hb
    refine hK.out _ _ ⟨((blk_cell m6 0).trans rfl), ((blk_cell m6 1).trans rfl)⟩ (fun hHeld => ?_)
    clear hK K
    refine norm_ (by show Act.put _ (some 59) _ = _; simp only [Act.put, List.setIfInBounds_toArray, List.set_cons_zero, List.set_cons_succ, i64_w, i32_w]; rfl) ?_
    refine zpz (i := 14) (N := some 60) zq1 ?_
    refine zpz (i := 15) (N := some 61) zq1 ?_
    refine zpz (i := 16) (N := some 62) zq1 ?_
    refine last_ (i := 17) (N := none) #[true, true, true, true, true, true, true, true, true, true, true, true, true, true, true, true, true, true] rfl rfl zq1 (by decide) (fun K hK => ?_)
    have hf0_ := blk_frozen m6 0
    have hc0_ := (blk_cell m6 0).trans rfl
    have hf1_ := blk_frozen m6 1
    have hc1_ := (blk_cell m6 1).trans rfl
    refine skip_ (w1 := ?_) (by rfl) rfl ?_ ?_
    rotate_left
    ·go_simp
     rfl
    clear hf0_ hc0_ hf1_ hc1_
    replace m3 : Blk (w13.setCell ⟨g6, 0, none⟩ (.int .i64 (wrap64 (lo + (atI r ys lo).1)))) g3 #[.int .i64 k, .int .i64 t] 41 := blk_far (p := ⟨g6, 0, none⟩) m3 hn_3_6 _
    replace m4 : Blk (w13.setCell ⟨g6, 0, none⟩ (.int .i64 (wrap64 (lo + (atI r ys lo).1)))) g4 #[.int .i64 0, .int .i64 0] 35 := blk_far (p := ⟨g6, 0, none⟩) m4 hn_4_6 _
    replace m6 : Blk (w13.setCell ⟨g6, 0, none⟩ (.int .i64 (wrap64 (lo + (atI r ys lo).1)))) g6 #[.int .i64 (wrap64 (lo + (atI r ys lo).1)), .int .i64 hi] 35 := blk_put m6 0 _ rfl
    replace mB : Below w.heap.size w (w13.setCell ⟨g6, 0, none⟩ (.int .i64 (wrap64 (lo + (atI r ys lo).1)))) := mB.setCell (p := ⟨g6, 0, none⟩) hG6 _
    replace m3 : Blk ((w13.setCell ⟨g6, 0, none⟩ (.int .i64 (wrap64 (lo + (atI r ys lo).1)))).setCell ⟨g6, 1, none⟩ (.int .i64 (wrap64 (hi + (atI r ys hi).2)))) g3 #[.int .i64 k, .int .i64 t] 41 := blk_far (p := ⟨g6, 1, none⟩) m3 hn_3_6 _
    replace m4 : Blk ((w13.setCell ⟨g6, 0, none⟩ (.int .i64 (wrap64 (lo + (atI r ys lo).1)))).setCell ⟨g6, 1, none⟩ (.int .i64 (wrap64 (hi + (atI r ys hi).2)))) g4 #[.int .i64 0, .int .i64 0] 35 := blk_far (p := ⟨g6, 1, none⟩) m4 hn_4_6 _
    replace m6 : Blk ((w13.setCell ⟨g6, 0, none⟩ (.int .i64 (wrap64 (lo + (atI r ys lo).1)))).setCell ⟨g6, 1, none⟩ (.int .i64 (wrap64 (hi + (atI r ys hi).2)))) g6 #[.int .i64 (wrap64 (lo + (atI r ys lo).1)), .int .i64 (wrap64 (hi + (atI r ys hi).2))] 35 := blk_put m6 1 _ rfl
    replace mB : Below w.heap.size w ((w13.setCell ⟨g6, 0, none⟩ (.int .i64 (wrap64 (lo + (atI r ys lo).1)))).setCell ⟨g6, 1, none⟩ (.int .i64 (wrap64 (hi + (atI r ys hi).2)))) := mB.setCell (p := ⟨g6, 1, none⟩) hG6 _
    refine hK.out _ _ ?_
    clear hK K
    refine done_ zq1 ?_
    have q0 := (blk_cell (HK.out.below mB) 0).trans rfl
    replace hx := (mB.cell (World.block_lt_of_cell? w _ hx0)).trans hx0
    go_wp2
    go_roundw
    case rel => exact ⟨par, _, _, m, rfl, by omega, by omega, by omega, HT2, m3, m4, m6, mB⟩
    case measure => simp [intOf]; omega
end Go.Proofs.Ytcjdhajdoikojaa.Clk
end
section
namespace Go.Proofs.Ytcjdhajdoikojaa.Pr
open Go.RowKit Go.Proofs.YtcjdhajdoikojaaW.PrintWords Go.Proofs.YtcjdhajdoikojaaW.PrintLast Go.Proofs.YtcjdhajdoikojaaW.PrintMore
attribute [local go_sem] max2_int min2_int max_two min_two
set_option linter.unusedVariables false
set_option linter.unusedSimpArgs false

/-! ### clock_within: function 57 -/
def clock_within.f (a0 : Int) (a1 : Int) (a2 : Int) : Option (Int) := if a0 < a1 then (some 3) else (if a0 > a2 then (some 3) else (some 0))
set_option maxHeartbeats 8000000 in
set_option maxRecDepth 100000 in
theorem clock_within.calls (a0 : Int) (a1 : Int) (a2 : Int) (r : Int) (w : World) (h : clock_within.f a0 a1 a2 = some r) :
  Calls Try.prog 57 #[.int .i64 a0, .int .i64 a1, .int .i64 a2] w fun e w' => e = .returned (.int .i64 r) ∧ Drawn0 w w' := by
 have H : (if a0 < a1 then (some 3) else (if a0 > a2 then (some 3) else (some 0))) = some r := h
 clear h
 by_cases c4 : a0 < a1
 ·rw [if_pos c4] at H
  have c4b0 : decide (a0 < a1) = true := decide_eq_true c4
  clear c4
  obtain rfl := Option.some.inj H
  go_enter Try.func57, Try.ntmps57
  go_wp2
  go_ret
  exact ⟨zq23, zq24⟩
 ·rw [if_neg c4] at H
  have c4b0 : decide (a0 < a1) = false := decide_eq_false c4
  clear c4
  by_cases c5 : a0 > a2
  ·rw [if_pos c5] at H
   have c5b0 : decide (a2 < a0) = true := decide_eq_true c5
   clear c5
   obtain rfl := Option.some.inj H
   go_enter Try.func57, Try.ntmps57
   go_wp2
   go_ret
   exact ⟨zq23, zq24⟩
  ·rw [if_neg c5] at H
   have c5b0 : decide (a2 < a0) = false := decide_eq_false c5
   clear c5
   obtain rfl := Option.some.inj H
   go_enter Try.func57, Try.ntmps57
   go_wp2
   go_ret
   exact ⟨zq23, zq24⟩

end Go.Proofs.Ytcjdhajdoikojaa.Pr
end
section
/- The exported functions over one clock: what they answer. -/
namespace Go.Proofs.Ytcjdhajdoikojaa.Clk
open Go.RowKit Go.Shelf Go.Proofs.YtcjdhajdoikojaaW.PrintWords Go.Proofs.YtcjdhajdoikojaaW.PrintLast Go.Proofs.YtcjdhajdoikojaaW.PrintMore Go.Proofs.Ytcjdhajdoikojaa.Pr Go.Proofs.YtcjdhajdoikojaaW.Round
set_option linter.unusedVariables false
set_option linter.unusedSimpArgs false

/-- It returns a value, and what lay in memory stands. -/
def RetB (v : Value) (w : World) (e : Ending) (w' : World) : Prop := e = .returned v ∧ Below w.heap.size w w'
/-- What newSound says of its pointer. -/
def SoundRes (par rate : Int) (xs : List S46) (between : Int) (B : Nat) (ptr : Option Addr) (W : World) : Prop :=
 (soundE par rate xs between = 0 ∧ ∃ g, ptr = some ⟨g, 0, none⟩ ∧ B ≤ g ∧ FaceR W g par rate (xs.map (anchorI rate))) ∨ (soundE par rate xs between ≠ 0 ∧ ptr = none)
theorem SoundRes.below {par rate : Int} {xs : List S46} {between : Int} {B : Nat} {ptr : Option Addr} {W W1 : World} (h : SoundRes par rate xs between B ptr W) (hb : Below W.heap.size W W1) : SoundRes par rate xs between B ptr W1 := by
 rcases h with ⟨h0, g, h1, h2, h3⟩ | h
 ·exact .inl ⟨h0, g, h1, h2, h3.below hb⟩
 ·exact .inr h
theorem soundE_len {par rate : Int} {xs : List S46} {between : Int} (h : soundE par rate xs between = 0) : xs.length ≤ 64 := by
 unfold soundE at h
 by_cases h0 : faceE par rate xs = 0
 ·exact faceE_len h0
 ·rw [if_pos h0] at h
  exact absurd h h0

end Go.Proofs.Ytcjdhajdoikojaa.Clk
end
section
/- Offsets, and true times: what the exported functions answer. -/
namespace Go.Proofs.Ytcjdhajdoikojaa.Clk
open Go.RowKit Go.Shelf Go.Proofs.YtcjdhajdoikojaaW.PrintWords Go.Proofs.YtcjdhajdoikojaaW.PrintLast Go.Proofs.YtcjdhajdoikojaaW.PrintMore Go.Proofs.Ytcjdhajdoikojaa.Pr Go.Proofs.YtcjdhajdoikojaaW.Round
set_option linter.unusedVariables false
set_option linter.unusedSimpArgs false

def withinI (t lo hi : Int) : Int := (clock_within.f t lo hi).getD 0
theorem within_any (t lo hi : Int) (w : World) : Calls Try.prog 57 #[.int .i64 t, .int .i64 lo, .int .i64 hi] w fun e w' => e = .returned (.int .i64 (withinI t lo hi)) ∧ Below w.heap.size w w' := (clock_within.calls _ _ _ _ w (show clock_within.f t lo hi = some (withinI t lo hi) by unfold withinI clock_within.f; repeat (first | rfl | split))).mono fun e w' h => ⟨h.1, h.2.below⟩
def atE (par rate : Int) (xs : List S46) (t : Int) : Int := soundE par rate xs (withinI t 0 1125899906842624)
def atV (par rate : Int) (xs : List S46) (t : Int) : Int × Int := if atE par rate xs t = 0 then atI rate (xs.map (anchorI rate)) t else (0, 0)
set_option maxRecDepth 100000 in
set_option maxHeartbeats 2000000 in
theorem At_any (par rate : Int) (A : Option Addr) (c : Nat) (xs : List S46) (t : Int) (w : World) (hC : Kd.C k46 w A xs.length xs) (hc : xs.length ≤ c) :
  Calls Try.prog 22 #[.agg #[.int .i64 par, .int .i64 rate, .slice A xs.length c], .int .i64 t] w (RetB (.tuple #[.agg #[.int .i64 (atV par rate xs t).1, .int .i64 (atV par rate xs t).2], .int .i64 (atE par rate xs t)]) w) := by
 have hu35 := Try.underlying35
 have hu30 := Try.underlying30
 have hEE : atE par rate xs t = soundE par rate xs (withinI t 0 1125899906842624) := rfl
 have HEE := Lib.hid hEE
 have HV : Hid (atV par rate xs t = if atE par rate xs t = 0 then atI rate (xs.map (anchorI rate)) t else (0, 0)) := Lib.hid rfl
 clear hEE
 go_enter Try.func22, Try.ntmps22
 go_wp2_with fail
 have m2 : Blk ((w.alloc (.cells #[.int .i64 par, .int .i64 rate, .slice A xs.length c] 30)).alloc (.cells #[.int .i64 0, .int .i64 0] 35)) (w.heap.size) #[.int .i64 par, .int .i64 rate, .slice A xs.length c] 30 := (blk_alloc zq28 _)
 have m4 : Blk ((w.alloc (.cells #[.int .i64 par, .int .i64 rate, .slice A xs.length c] 30)).alloc (.cells #[.int .i64 0, .int .i64 0] 35)) (w.heap.size + 1) #[.int .i64 0, .int .i64 0] 35 := (by have h_ := blk_new (w.alloc (.cells #[.int .i64 par, .int .i64 rate, .slice A xs.length c] 30)) (.cells #[.int .i64 0, .int .i64 0] 35); first | exact h_ | (simp only [World.size_alloc] at h_; exact h_))
 have mB : Below w.heap.size w ((w.alloc (.cells #[.int .i64 par, .int .i64 rate, .slice A xs.length c] 30)).alloc (.cells #[.int .i64 0, .int .i64 0] 35)) := (below_alloc (below_alloc (Below.refl w.heap.size w) _) _)
 have hsz_ : w.heap.size ≤ w.heap.size := Nat.le_refl _
 generalize hW_ : ((w.alloc (.cells #[.int .i64 par, .int .i64 rate, .slice A xs.length c] 30)).alloc (.cells #[.int .i64 0, .int .i64 0] 35)) = W1 at m2 m4 mB ⊢
 clear hW_
 generalize hg2 : w.heap.size = g2 at m2 m4 ⊢
 have hG2 : w.heap.size ≤ g2 := by omega
 generalize hg4 : g2 + 1 = g4 at m4 ⊢
 have hn_2_4 : g2 ≠ g4 := by omega
 have hn_4_2 : g4 ≠ g2 := hn_2_4.symm
 have hG4 : w.heap.size ≤ g4 := by omega
 clear hsz_
 try clear hg4
 try clear hg2
 have hs_W1 : w.heap.size ≤ W1.heap.size := mB.size
 replace m2 := blk_drew m2
 replace m4 := blk_drew m4
 replace mB := below_drew1 mB
 refine start_ (n := 9) (S := fun w' => w'.cell? ⟨g2, 0, none⟩ = some (.int .i64 par) ∧ w'.cell? ⟨g2, 1, none⟩ = some (.int .i64 rate) ∧ w'.cell? ⟨g2, 2, none⟩ = some (.slice A xs.length c)) (ds := []) #[false, false, false, false, false, false, false, false, false] zq1 rfl rfl ⟨((blk_cell m2 0).trans rfl), ((blk_cell m2 1).trans rfl), ((blk_cell m2 2).trans rfl)⟩ (fun hHeld => ?_)
 generalize hWd : World.drew _ = Wx at *
 clear hWd
 refine zpz (i := 1) (N := some 10) zq1 ?_
 refine ztz (i := 0) (N := some 9) zq1 hHeld ?_
 refine one_ (i := 2) (N := some 11) #[true, true, true, false, false, false, false, false, false] rfl rfl zq1 (by decide) (fun K hK => ?_)
 have hcon_ := within_any t 0 1125899906842624 Wx
 refine goes_ Try.func57 zq1 rfl #[.int .i64 t, .int .i64 0, .int .i64 1125899906842624] (by rfl) rfl rfl zq10 ?_
 with_reducible refine (hcon_).mono ?_
 rintro e w2 ⟨rfl, hb⟩
 refine ⟨_, rfl, ?_⟩
 clear hcon_
 replace m2 := blk_below m2 hb
 replace m4 := blk_below m4 hb
 replace mB := below_step mB hb
 clear hb
 refine hK.out _ _ ⟨((blk_cell m2 0).trans rfl), ((blk_cell m2 1).trans rfl), ((blk_cell m2 2).trans rfl)⟩ (fun hHeld => ?_)
 clear hK K
 refine norm_ (by show Act.put _ (some 11) _ = _; simp only [Act.put, List.setIfInBounds_toArray, List.set_cons_zero, List.set_cons_succ, i64_w, i32_w]; rfl) ?_
 refine one_ (i := 3) (N := some 12) #[true, true, true, true, false, false, false, false, false] rfl rfl zq1 (by decide) (fun K hK => ?_)
 have hcon_ := newSound_any par rate A c xs (withinI t 0 1125899906842624) w2 (Kd.C_below hC mB) hc
 refine goes_ Try.func56 zq1 rfl #[.agg #[.int .i64 par, .int .i64 rate, .slice A xs.length c], .int .i64 (withinI t 0 1125899906842624)] (by rfl) rfl rfl zq10 ?_
 with_reducible refine (hcon_).mono ?_
 rintro e w3 ⟨ptr, rfl, hb, hcase⟩
 refine ⟨_, rfl, ?_⟩
 clear hcon_
 replace m2 := blk_below m2 hb
 replace m4 := blk_below m4 hb
 replace mB := below_step mB hb
 clear hb
 refine hK.out _ _ ⟨((blk_cell m2 0).trans rfl), ((blk_cell m2 1).trans rfl), ((blk_cell m2 2).trans rfl)⟩ (fun hHeld => ?_)
 clear hK K
 refine norm_ (by show Act.put _ (some 12) _ = _; simp only [Act.put, List.setIfInBounds_toArray, List.set_cons_zero, List.set_cons_succ, i64_w, i32_w]; rfl) ?_
 refine zpz (i := 4) (N := some 8) zq1 ?_
 refine zpz (i := 5) (N := some 13) zq1 ?_
 refine zpz (i := 6) (N := some 14) zq1 ?_
 refine zpz (i := 7) (N := some 6) zq1 ?_
 refine zpz (i := 8) (N := some 7) zq1 ?_
 refine done_ zq1 ?_
 have hlen := fun h => soundE_len (par := par) (rate := rate) (xs := xs) (between := withinI t 0 1125899906842624) h
 generalize soundE par rate xs (withinI t 0 1125899906842624) = E0 at *
 rcases hcase with ⟨h0, g, rfl, hg, hF⟩ | ⟨h0, rfl⟩
 case inr =>
  have h0_ := Lib.hid h0
  have hd : (E0 == 0) = false := beq_eq_false_iff_ne.2 h0
  have hd2 : (E0 != 0) = true := by rw [bne, hd]; rfl
  clear h0 hlen
  obtain ⟨f4_0, f4_1⟩ := zfs2 m4
  obtain ⟨c4_0, c4_1⟩ := zcs2 m4
  go_wp2
  exact bodyPost_ret (results_ct rfl _ _ g4 35 #[.int .i64 0, .int .i64 0] (0, 0) _ rfl (blk_put (blk_put m4 0 _ rfl) 1 _ rfl) Try.underlying35 rfl zq1) rfl ⟨by rw [HV.out, HEE.out, if_neg h0_.out]; rfl, (mB.setCell hG4 _).setCell hG4 _⟩
 case inl =>
  have hl := hlen h0
  subst h0
  clear hlen
  go_wp2_with fail
  have hcon := at_any g par rate (xs.map (anchorI rate)) (by rw [List.length_map]; omega) t w3 hF.at
  (with_reducible refine hcon.mono ?_)
  clear hcon
  rintro e W4 ⟨rfl, hb⟩
  replace m2 := blk_below m2 hb
  replace m4 := blk_below m4 hb
  replace mB := below_step mB hb
  clear hb
  have hs_W4 : w.heap.size ≤ W4.heap.size := mB.size
  generalize atI rate (xs.map (anchorI rate)) t = R at *
  obtain ⟨P1, P2⟩ := R
  dsimp only
  obtain ⟨f4_0, f4_1⟩ := zfs2 m4
  obtain ⟨c4_0, c4_1⟩ := zcs2 m4
  go_wp2
  exact bodyPost_ret (results_ct rfl _ _ g4 35 #[.int .i64 P1, .int .i64 P2] (0, 0) _ rfl (blk_put (blk_put m4 0 _ rfl) 1 _ rfl) Try.underlying35 rfl zq1) rfl ⟨by rw [HV.out, HEE.out, if_pos rfl]; rfl, (mB.setCell hG4 _).setCell hG4 _⟩

def TimeE (cs : List S30) (k t : Int) : Int := if houseE cs ≠ 0 then houseE cs else timeE cs k t
def TimeV (cs : List S30) (k t : Int) : Int × Int := if houseE cs ≠ 0 then (0, 0) else timeV cs k t
set_option maxRecDepth 100000 in
set_option maxHeartbeats 2000000 in
theorem Time_any (A : Option Addr) (c : Nat) (cs : List S30) (k t : Int) (w : World) (hC : Kd.C k30 w A cs.length cs) (hc : cs.length ≤ c) :
  Calls Try.prog 17 #[.slice A cs.length c, .agg #[.int .i64 k, .int .i64 t]] w (RetB (.tuple #[.agg #[.int .i64 (TimeV cs k t).1, .int .i64 (TimeV cs k t).2], .int .i64 (TimeE cs k t)]) w) := by
 have hu35 := Try.underlying35
 have hu41 := Try.underlying41
 have HE : Hid (TimeE cs k t = if houseE cs ≠ 0 then houseE cs else timeE cs k t) := Lib.hid rfl
 have HV : Hid (TimeV cs k t = if houseE cs ≠ 0 then (0, 0) else timeV cs k t) := Lib.hid rfl
 go_enter Try.func17, Try.ntmps17
 go_wp2_with fail
 have m3 : Blk ((w.alloc (.cells #[.int .i64 k, .int .i64 t] 41)).alloc (.cells #[.int .i64 0, .int .i64 0] 35)) (w.heap.size) #[.int .i64 k, .int .i64 t] 41 := (blk_alloc zq32 _)
 have m4 : Blk ((w.alloc (.cells #[.int .i64 k, .int .i64 t] 41)).alloc (.cells #[.int .i64 0, .int .i64 0] 35)) (w.heap.size + 1) #[.int .i64 0, .int .i64 0] 35 := zq33
 have mB : Below w.heap.size w ((w.alloc (.cells #[.int .i64 k, .int .i64 t] 41)).alloc (.cells #[.int .i64 0, .int .i64 0] 35)) := (below_alloc (below_alloc (Below.refl w.heap.size w) _) _)
 have hsz_ : w.heap.size ≤ w.heap.size := Nat.le_refl _
 generalize hW_ : ((w.alloc (.cells #[.int .i64 k, .int .i64 t] 41)).alloc (.cells #[.int .i64 0, .int .i64 0] 35)) = W1 at m3 m4 mB ⊢
 clear hW_
 generalize hg3 : w.heap.size = g3 at m3 m4 ⊢
 have hG3 : w.heap.size ≤ g3 := by omega
 generalize hg4 : g3 + 1 = g4 at m4 ⊢
 have hn_3_4 : g3 ≠ g4 := by omega
 have hn_4_3 : g4 ≠ g3 := hn_3_4.symm
 have hG4 : w.heap.size ≤ g4 := by omega
 clear hsz_
 try clear hg4
 try clear hg3
 have hs_W1 : w.heap.size ≤ W1.heap.size := mB.size
 have hcon := newHouse_any A c cs W1 (Kd.C_below hC mB) hc
 (with_reducible refine hcon.mono ?_)
 clear hcon
 rintro e W2 ⟨v, rfl, hb, hcase⟩
 replace m3 := blk_below m3 hb
 replace m4 := blk_below m4 hb
 replace mB := below_step mB hb
 clear hb
 have hs_W2 : w.heap.size ≤ W2.heap.size := mB.size
 rcases hcase with ⟨h0, hH⟩ | ⟨h0, rfl⟩
 case inr =>
  generalize houseE cs = E0 at *
  have h0_ := Lib.hid h0
  have hd : (E0 == 0) = false := beq_eq_false_iff_ne.2 h0
  have hd2 : (E0 != 0) = true := by rw [bne, hd]; rfl
  clear h0
  obtain ⟨f4_0, f4_1⟩ := zfs2 m4
  obtain ⟨c4_0, c4_1⟩ := zcs2 m4
  go_wp2
  exact bodyPost_ret (results_ct rfl _ _ g4 35 #[.int .i64 0, .int .i64 0] (0, 0) _ rfl (blk_put (blk_put m4 0 _ rfl) 1 _ rfl) Try.underlying35 rfl zq1) rfl ⟨by rw [HV.out, HE.out, if_pos h0_.out, if_pos h0_.out]; rfl, (mB.setCell hG4 _).setCell hG4 _⟩
 case inl =>
  have H0 := Lib.hid h0
  rw [h0]
  clear h0
  obtain ⟨c3_0, c3_1⟩ := zcs2 m3
  go_wp2_with fail
  clear c3_0 c3_1
  have hcon := time_any _ v cs k t W2 hH H0.out
  (with_reducible refine hcon.mono ?_)
  clear hcon
  rintro e W3 ⟨rfl, hb⟩
  replace m3 := blk_below m3 hb
  replace m4 := blk_below m4 hb
  replace mB := below_step mB hb
  clear hb
  have hs_W3 : w.heap.size ≤ W3.heap.size := mB.size
  have HE2 : Hid (TimeE cs k t = timeE cs k t) := Lib.hid (by rw [HE.out, if_neg (by rw [H0.out]; decide)])
  have HV2 : Hid (TimeV cs k t = timeV cs k t) := Lib.hid (by rw [HV.out, if_neg (by rw [H0.out]; decide)])
  generalize timeE cs k t = E at *
  generalize timeV cs k t = R at *
  obtain ⟨P1, P2⟩ := R
  dsimp only
  obtain ⟨f4_0, f4_1⟩ := zfs2 m4
  obtain ⟨c4_0, c4_1⟩ := zcs2 m4
  go_wp2
  exact bodyPost_ret (results_ct rfl _ _ g4 35 #[.int .i64 P1, .int .i64 P2] (0, 0) _ rfl (blk_put (blk_put m4 0 _ rfl) 1 _ rfl) Try.underlying35 rfl zq1) rfl ⟨by rw [HV2.out, HE2.out]; rfl, (mB.setCell hG4 _).setCell hG4 _⟩

end Go.Proofs.Ytcjdhajdoikojaa.Clk
end
section
/- The last anchor, and the reading that is found by halving. -/
namespace Go.Proofs.Ytcjdhajdoikojaa.Clk
open Go.RowKit Go.Shelf Go.Proofs.YtcjdhajdoikojaaW.PrintWords Go.Proofs.YtcjdhajdoikojaaW.PrintLast Go.Proofs.YtcjdhajdoikojaaW.PrintMore Go.Proofs.Ytcjdhajdoikojaa.Pr Go.Proofs.YtcjdhajdoikojaaW.Round
set_option linter.unusedVariables false
set_option linter.unusedSimpArgs false
attribute [local go_sem] max2_int min2_int max_two min_two
section
variable {P : Program} {Q : Exit → Act → World → Prop} {ops : Array Oper}
/-- A call of a function that a temporary holds, in a region that draws. -/
theorem goesV_ {oi : Oper} {N : Option Tmp} {a : Act} {w : World} {K : Act → World → Prop} {f : FuncId} {fn : Func} {cal : Operand} {xs : Array Operand} {ts : Array TypeId} (hf : P.funcs[f]? = some fn) (hname : (fn.name == "runtime.NumGoroutine") = false) (hb : fn.body.isSome = true) (args : Array Value)
  (hw : Region.wanted oi (yielded ops a.tmps) = true) (hN : oi.dst = N) (hop : oi.op = .call { callee := .value cal, args := xs, argTypes := ts }) (hcal : a.eval cal = .func (.func f) #[] #[]) (hargs : xs.map a.eval = args)
  (h : Calls P f args w fun e w' => ∃ v, e = .returned v ∧ K (a.put N v) w') : if Region.wanted oi (yielded ops a.tmps) = true then Oper.wp P oi a w K Q else K (a.put N undef) w := by
 refine call_ f args hw hN ?_ h
 have he := enters_ hf hname hb args w
 unfold execOp
 simp [hop, resolve, Deferred.ofValue, invoke, hcal, hargs, he]
end

def cmpI (a b : S105) : Int := mx (-1) (mn (wrap64 (a.f1 - b.f1)) 1)
set_option maxRecDepth 100000 in
set_option maxHeartbeats 1000000 in
theorem cmp_any (a b : S105) (w : World) : Calls Try.prog 61 #[.agg #[.int .i64 a.f0.f0, .int .i64 a.f0.f1, .int .i64 a.f1], .agg #[.int .i64 b.f0.f0, .int .i64 b.f0.f1, .int .i64 b.f1]] w (RetB (.int .i64 (cmpI a b)) w) := by
 have hu105 := Try.underlying105
 go_enter Try.func61, Try.ntmps61
 go_wp2
 all_goals
  go_ret
  refine ⟨?_, zq30⟩
  show Ending.returned (.int .i64 _) = .returned (.int .i64 (cmpI a b))
  have hcm : cmpI a b = mx (-1) (mn (wrap64 (a.f1 - b.f1)) 1) := rfl
  rw [hcm]
  generalize wrap64 (a.f1 - b.f1) = D at *
  unfold mx mn
  congr 2
  repeat' split
  all_goals first | rfl | omega | (simp_all; done) | (simp_all; omega)

def maxStep (m x : S105) : S105 := if 0 < cmpI x m then x else m
def maxA (ys : List S105) : S105 := (ys.drop 1).foldl maxStep (rd_T105 ys 0)
set_option maxRecDepth 100000 in
set_option maxHeartbeats 4000000 in
theorem maxF_any (A : Option Addr) (c : Nat) (ys : List S105) (w : World) (hC : Kd.C k105 w A ys.length ys) (hl : ys.length ≤ 1000) (h1 : 1 ≤ ys.length) :
  Calls Try.prog 60 #[.slice A ys.length c, .func (.func 61) #[] #[]] w (RetB (.agg #[.int .i64 (maxA ys).f0.f0, .int .i64 (maxA ys).f0.f1, .int .i64 (maxA ys).f1]) w) := by
 have hu105 := Try.underlying105
 obtain ⟨ad, rfl, hx0, hx1, hx2⟩ := at_T105 hC 0 (by omega) (by omega)
 have d1 : decide ((ys.length : Int) < 1) = false := decide_eq_false (by omega)
 have d2 : decide (0 < (ys.length : Int)) = true := decide_eq_true (by omega)
 have d3 : (0 : Int) < (ys.length : Int) := by omega
 have hM : maxA ys = (ys.drop 1).foldl maxStep (rd_T105 ys 0) := rfl
 have HM := Lib.hid hM
 clear hM
 have hm0 : ((ys.take 1).drop 1).foldl maxStep (rd_T105 ys 0) = rd_T105 ys 0 := by rw [List.drop_eq_nil_of_le (by rw [List.length_take]; omega)]; rfl
 have Hm0 := Lib.hid hm0
 clear hm0
 generalize hx : rd_T105 ys 0 = x at *
 have HX := Lib.hid hx
 clear hx
 simp only [Int.toNat_zero, Nat.zero_mul] at hx0 hx1 hx2
 go_enter Try.func60, Try.ntmps60
 have e0 : ad.add 0 = ad := by cases ad; rfl
 rw [e0] at hx0 hx1 hx2
 have y0 : ∀ o_, (w.alloc o_).cell? ad = some (.int .i64 x.f0.f0) := fun o_ => ((below_alloc (Below.refl _ w) o_).cell (World.block_lt_of_cell? w _ hx0)).trans hx0
 have y1 : ∀ o_, (w.alloc o_).cell? ⟨ad.block, ad.off + 1, none⟩ = some (.int .i64 x.f0.f1) := fun o_ => ((below_alloc (Below.refl _ w) o_).cell (World.block_lt_of_cell? w _ hx1)).trans hx1
 have y2 : ∀ o_, (w.alloc o_).cell? ⟨ad.block, ad.off + 2, none⟩ = some (.int .i64 x.f1) := fun o_ => ((below_alloc (Below.refl _ w) o_).cell (World.block_lt_of_cell? w _ hx2)).trans hx2
 go_wp2_with fail
 clear hx0 hx1 hx2 y0 y1 y2 e0 d1 d2
 have m4 : Blk ((w.alloc (.cells #[.int .i64 0, .int .i64 0, .int .i64 0] 105)).alloc (.cells #[.int .i64 x.f0.f0, .int .i64 x.f0.f1, .int .i64 x.f1] 105)) (w.heap.size) #[.int .i64 0, .int .i64 0, .int .i64 0] 105 := (blk_alloc (by have h_ := blk_new w (.cells #[.int .i64 0, .int .i64 0, .int .i64 0] 105); first | exact h_ | (simp only [World.size_alloc] at h_; exact h_)) _)
 have m5 : Blk ((w.alloc (.cells #[.int .i64 0, .int .i64 0, .int .i64 0] 105)).alloc (.cells #[.int .i64 x.f0.f0, .int .i64 x.f0.f1, .int .i64 x.f1] 105)) (w.heap.size + 1) #[.int .i64 x.f0.f0, .int .i64 x.f0.f1, .int .i64 x.f1] 105 := (by have h_ := blk_new (w.alloc (.cells #[.int .i64 0, .int .i64 0, .int .i64 0] 105)) (.cells #[.int .i64 x.f0.f0, .int .i64 x.f0.f1, .int .i64 x.f1] 105); first | exact h_ | (simp only [World.size_alloc] at h_; exact h_))
 have mB : Below w.heap.size w ((w.alloc (.cells #[.int .i64 0, .int .i64 0, .int .i64 0] 105)).alloc (.cells #[.int .i64 x.f0.f0, .int .i64 x.f0.f1, .int .i64 x.f1] 105)) := (below_alloc (below_alloc (Below.refl w.heap.size w) _) _)
 have hsz_ : w.heap.size ≤ w.heap.size := Nat.le_refl _
 generalize hW_ : ((w.alloc (.cells #[.int .i64 0, .int .i64 0, .int .i64 0] 105)).alloc (.cells #[.int .i64 x.f0.f0, .int .i64 x.f0.f1, .int .i64 x.f1] 105)) = W1 at m4 m5 mB ⊢
 clear hW_
 generalize hg4 : w.heap.size = g4 at m4 m5 ⊢
 have hG4 : w.heap.size ≤ g4 := by omega
 generalize hg5 : g4 + 1 = g5 at m5 ⊢
 have hn_4_5 : g4 ≠ g5 := by omega
 have hn_5_4 : g5 ≠ g4 := hn_4_5.symm
 have hG5 : w.heap.size ≤ g5 := by omega
 clear hsz_
 try clear hg5
 try clear hg4
 have hs_W1 : w.heap.size ≤ W1.heap.size := mB.size
 go_loopw [6] (fun i wr => ∃ (k : Nat) (m : S105), 1 ≤ k ∧ k ≤ ys.length ∧ i = .int .i64 k ∧ Hid (m = ((ys.take k).drop 1).foldl maxStep x) ∧ Blk wr g4 #[.int .i64 0, .int .i64 0, .int .i64 0] 105 ∧ Blk wr g5 #[.int .i64 m.f0.f0, .int .i64 m.f0.f1, .int .i64 m.f1] 105 ∧ Below w.heap.size w wr) (fun i _ => ys.length - (intOf i).toNat)
 case atStart => exact ⟨1, x, Nat.le_refl _, h1, rfl, Lib.hid (by rw [Hm0.out]), m4, m5, mB⟩
 case round =>
  clear m4 m5 mB
  obtain ⟨k, m, hk1, hk, rfl, HA, m4, m5, mB⟩ := hrel
  have hs_wr : w.heap.size ≤ wr.heap.size := mB.size
  by_cases hlt : k < ys.length
  case pos =>
   obtain ⟨ad_, e_, hy0, hy1, hy2⟩ := at_T105 hC k (by omega) (by omega)
   cases e_
   simp only [Int.toNat_natCast] at hy0 hy1 hy2
   replace hy0 := (mB.cell (World.block_lt_of_cell? w _ hy0)).trans hy0
   replace hy1 := (mB.cell (World.block_lt_of_cell? w _ hy1)).trans hy1
   replace hy2 := (mB.cell (World.block_lt_of_cell? w _ hy2)).trans hy2
   have hlk : ys[k]? = some (rd_T105 ys (k : Int)) := by simp [rd_T105, List.getD_eq_getElem?_getD, hlt]
   have htk : (ys.take (k + 1)).drop 1 = (ys.take k).drop 1 ++ [rd_T105 ys (k : Int)] := by rw [List.take_add_one, hlk, List.drop_append_of_le_length (by rw [List.length_take]; omega)]; rfl
   generalize rd_T105 ys (k : Int) = y at *
   have HT := Lib.hid htk
   clear htk hlk
   have hm2 : maxStep m y = if 0 < cmpI y m then y else m := rfl
   have HS := Lib.hid hm2
   clear hm2
   go_wp2_with fail
   replace m4 := blk_drew m4
   replace m5 := blk_drew m5
   replace mB := below_drew1 mB
   replace hy0 := ((below_drew1 (Below.refl wr.heap.size wr)).cell (World.block_lt_of_cell? wr _ hy0)).trans hy0
   replace hy1 := ((below_drew1 (Below.refl wr.heap.size wr)).cell (World.block_lt_of_cell? wr _ hy1)).trans hy1
   replace hy2 := ((below_drew1 (Below.refl wr.heap.size wr)).cell (World.block_lt_of_cell? wr _ hy2)).trans hy2
   refine start_ (n := 8) (S := fun w' => w'.cell? ⟨g5, 0, none⟩ = some (.int .i64 m.f0.f0) ∧ w'.cell? ⟨g5, 1, none⟩ = some (.int .i64 m.f0.f1) ∧ w'.cell? ⟨g5, 2, none⟩ = some (.int .i64 m.f1) ∧ w'.cell? (ad.add (k * 3)) = some (.int .i64 y.f0.f0) ∧ w'.cell? ⟨(ad.add (k * 3)).block, (ad.add (k * 3)).off + 1, none⟩ = some (.int .i64 y.f0.f1) ∧ w'.cell? ⟨(ad.add (k * 3)).block, (ad.add (k * 3)).off + 2, none⟩ = some (.int .i64 y.f1)) (ds := []) #[false, false, false, false, false, false, false, false] zq1 rfl rfl ⟨((blk_cell m5 0).trans rfl), ((blk_cell m5 1).trans rfl), ((blk_cell m5 2).trans rfl), hy0, hy1, hy2⟩ (fun hHeld => ?_)
   generalize hWd : World.drew _ = Wx at *
   clear hWd
   refine zpz (i := 0) (N := some 20) zq1 ?_
   refine zpz (i := 1) (N := some 21) zq1 ?_
   refine zpz (i := 2) (N := some 22) zq1 ?_
   refine zpz (i := 3) (N := some 23) zq1 ?_
   refine ztz (i := 4) (N := some 24) zq1 hHeld ?_
   refine ztz (i := 5) (N := some 25) zq1 hHeld ?_
   refine one_ (i := 6) (N := some 26) #[true, true, true, true, true, true, true, false] rfl rfl zq1 (by decide) (fun K hK => ?_)
   have hcon_ := cmp_any y m Wx
   refine goesV_ Try.func61 zq1 rfl #[.agg #[.int .i64 y.f0.f0, .int .i64 y.f0.f1, .int .i64 y.f1], .agg #[.int .i64 m.f0.f0, .int .i64 m.f0.f1, .int .i64 m.f1]] (by rfl) rfl rfl (by rfl) zq10 ?_
   with_reducible refine (hcon_).mono ?_
   rintro e w6 ⟨rfl, hb⟩
   refine ⟨_, rfl, ?_⟩
   clear hcon_
   replace m4 := blk_below m4 hb
   replace m5 := blk_below m5 hb
   replace hy0 := (hb.cell (World.block_lt_of_cell? _ _ hy0)).trans hy0
   replace hy1 := (hb.cell (World.block_lt_of_cell? _ _ hy1)).trans hy1
   replace hy2 := (hb.cell (World.block_lt_of_cell? _ _ hy2)).trans hy2
   replace mB := below_step mB hb
   clear hb
   refine hK.out _ _ ⟨((blk_cell m5 0).trans rfl), ((blk_cell m5 1).trans rfl), ((blk_cell m5 2).trans rfl), hy0, hy1, hy2⟩ (fun hHeld => ?_)
   clear hK K
   refine norm_ (by show Act.put _ (some 26) _ = _; simp only [Act.put, List.setIfInBounds_toArray, List.set_cons_zero, List.set_cons_succ, i64_w, i32_w]; rfl) ?_
   refine zpz (i := 7) (N := some 27) zq1 ?_
   refine done_ zq1 ?_
   by_cases hq : 0 < cmpI y m
   case neg =>
    have dq : decide (0 < cmpI y m) = false := decide_eq_false hq
    have dq2 := eq_false hq
    have dq3 : cmpI y m ≤ 0 := by omega
    have HQ := Lib.hid (HS.out.trans (if_neg hq))
    clear hq HS
    go_wp2
    go_roundw
    case rel => exact ⟨k + 1, m, by omega, by omega, by simp, Lib.hid (by rw [HT.out, List.foldl_append, ← HA.out]; exact HQ.out.symm), m4, m5, mB⟩
    case measure => simp [intOf]; omega
   case pos =>
    have dq : decide (0 < cmpI y m) = true := decide_eq_true hq
    have dq2 := eq_true hq
    have dq3 : ¬ cmpI y m ≤ 0 := by omega
    have HQ := Lib.hid (HS.out.trans (if_pos hq))
    clear hq HS
    obtain ⟨f5_0, f5_1, f5_2⟩ := zfs3 m5
    obtain ⟨c5_0, c5_1, c5_2⟩ := zcs3 m5
    go_wp2
    go_roundw
    case rel => exact ⟨k + 1, y, by omega, by omega, by simp, Lib.hid (by rw [HT.out, List.foldl_append, ← HA.out]; exact HQ.out.symm), blk_far (p := ⟨g5, 2, none⟩) (blk_far (p := ⟨g5, 1, none⟩) (blk_far (p := ⟨g5, 0, none⟩) m4 hn_4_5 _) hn_4_5 _) hn_4_5 _, blk_put (blk_put (blk_put m5 0 _ rfl) 1 _ rfl) 2 _ rfl, ((mB.setCell hG5 _).setCell hG5 _).setCell hG5 _⟩
    case measure => simp [intOf]; omega
  case neg =>
   obtain rfl : k = ys.length := by omega
   rw [List.take_length, ← HM.out] at HA
   obtain ⟨f4_0, f4_1, f4_2⟩ := zfs3 m4
   obtain ⟨c4_0, c4_1, c4_2⟩ := zcs3 m4
   obtain ⟨c5_0, c5_1, c5_2⟩ := zcs3 m5
   go_wp2
   exact bodyPost_ret (results_cell_row rfl _ _ g4 105 #[.int .i64 m.f0.f0, .int .i64 m.f0.f1, .int .i64 m.f1] (0, 0) _ rfl (blk_put (blk_put (blk_put m4 0 _ rfl) 1 _ rfl) 2 _ rfl) Try.underlying105 rfl zq1) rfl ⟨by rw [HA.out], ((mB.setCell hG4 _).setCell hG4 _).setCell hG4 _⟩
end Go.Proofs.Ytcjdhajdoikojaa.Clk
end
