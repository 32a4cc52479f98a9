/- Part 7 of the proof of ClockTimes: what the functions compute. No condition. -/
import Derived.Test.YtcjdhajdoikojaaDtClockTimes5
import Derived.Test.YtcjdhajdoikojaaDtClockTimes6
import Derived.Test.YtcjdhajdoikojaaDtClockTimes1
section
/- Whether two exchanges contradict each other, as the document's answer computes it. -/
namespace Go.Proofs.Ytcjdhajdoikojaa.Clk
open Go.RowKit Go.Shelf Go.Proofs.YtcjdhajdoikojaaW.PrintWords Go.Proofs.YtcjdhajdoikojaaW.PrintLast Go.Proofs.YtcjdhajdoikojaaW.PrintMore Go.Proofs.Ytcjdhajdoikojaa.Pr Go.Proofs.YtcjdhajdoikojaaW.Round
set_option linter.unusedVariables false
set_option linter.unusedSimpArgs false

def downR (a : Int) : Int := if Int.tmod a 1000000000 < 0 then wrap64 (wrap64 (Int.tdiv a 1000000000) - 1) else wrap64 (Int.tdiv a 1000000000)
theorem down_some (k : Nat) (a : Int) : isobathref01_Down.f (k + 1) a 1000000000 = some (downR a) := by
  rw [isobathref01_Down.f, if_neg (by decide), if_neg (by decide)]
  unfold downR
  split <;> rfl
def growR (rate d : Int) : Int := (isobathref05_Growth.f 3 rate d).getD 0
theorem growR_some (k : Nat) (rate d : Int) : isobathref05_Growth.f (k + 1) rate d = some (growR rate d) := by
  unfold growR isobathref05_Growth.f isobathref01_Up.f
  rw [down_some, down_some]
  rfl
def offR (x : S46) (rate : Int) : Int × Int := (isobathref05_offset.f 3 x.f0 x.f1 x.f2 x.f3 x.f4.f0 x.f4.f1 x.f5.f0 x.f5.f1 rate).getD (0, 0)
theorem offR_some (k : Nat) (x : S46) (rate : Int) : isobathref05_offset.f (k + 1) x.f0 x.f1 x.f2 x.f3 x.f4.f0 x.f4.f1 x.f5.f0 x.f5.f1 rate = some (offR x rate) := by
  unfold offR isobathref05_offset.f
  rw [growR_some, growR_some]
  rfl
theorem offR_any (x : S46) (rate : Int) (w : World) : Calls Try.prog 67 #[.agg #[.int .i64 x.f0, .int .i64 x.f1, .int .i64 x.f2, .int .i64 x.f3, .int .i64 x.f4.f0, .int .i64 x.f4.f1, .int .i64 x.f5.f0, .int .i64 x.f5.f1], .int .i64 rate] w fun e w' => e = .returned (.agg #[.int .i64 (offR x rate).1, .int .i64 (offR x rate).2]) ∧ Below w.heap.size w w' :=
  isobathref05_offset.calls 1 _ _ _ _ _ _ _ _ _ _ _ w (offR_some 0 x rate)
theorem growR_any (rate d : Int) (w : World) : Calls Try.prog 24 #[.int .i64 rate, .int .i64 d] w fun e w' => e = .returned (.int .i64 (growR rate d)) ∧ Below w.heap.size w w' := isobathref05_Growth.calls 1 _ _ _ w (growR_some 0 _ _)
theorem grownR_any (a b g : Int) (w : World) : Calls Try.prog 95 #[.agg #[.int .i64 a, .int .i64 b], .int .i64 g] w fun e w' => e = .returned (.agg #[.int .i64 (wrap64 (a - g)), .int .i64 (wrap64 (b + g))]) ∧ Below w.heap.size w w' := isobathref05_grown.calls _ _ _ _ _ w rfl
theorem meetR_any (a b c d : Int) (w : World) : Calls Try.prog 86 #[.agg #[.int .i64 a, .int .i64 b], .agg #[.int .i64 c, .int .i64 d]] w fun e w' => e = .returned (.agg #[.int .i64 (mx a c), .int .i64 (mn b d)]) ∧ Below w.heap.size w w' := isobathref05_meet.calls _ _ _ _ _ _ w rfl
/-- Do two exchanges contradict each other? -/
def conR (rate : Int) (x y : S46) : Bool :=
  decide (mx (wrap64 ((offR x rate).1 - growR rate (wrap64 (x.f3 - y.f3)))) (offR y rate).1 > mn (wrap64 ((offR x rate).2 + growR rate (wrap64 (x.f3 - y.f3)))) (offR y rate).2)

set_option maxRecDepth 100000 in
set_option maxHeartbeats 8000000 in
theorem conR_any (par rate : Int) (A : Option Addr) (c : Nat) (xs : List S46) (i k : Int) (h0 : 0 ≤ i) (h1 : i < (xs.length : Int)) (h2 : 0 ≤ k) (h3 : k < (xs.length : Int)) (w : World) (hC : Kd.C k46 w A xs.length xs) (hc : xs.length ≤ c) :
    Calls Try.prog 77 #[.agg #[.int .i64 par, .int .i64 rate, .slice A xs.length c], .int .i64 i, .int .i64 k] w fun e w' => e = .returned (.bool (conR rate (rd_T46 xs i) (rd_T46 xs k))) ∧ Below w.heap.size w w' := by
  have hu35 := Try.underlying35
  have hu46 := Try.underlying46
  have hu30 := Try.underlying30
  obtain ⟨ad, rfl, hx0, hx1, hx2, hx3, hx4, hx5, hx6, hx7⟩ := at_T46 hC i h0 h1
  obtain ⟨ad_, e_, hy0, hy1, hy2, hy3, hy4, hy5, hy6, hy7⟩ := at_T46 hC k h2 h3
  cases e_
  generalize rd_T46 xs i = Xi at *
  generalize rd_T46 xs k = Xk at *
  have HC : Hid (conR rate Xi Xk = decide (mx (wrap64 ((offR Xi rate).1 - growR rate (wrap64 (Xi.f3 - Xk.f3)))) (offR Xk rate).1 > mn (wrap64 ((offR Xi rate).2 + growR rate (wrap64 (Xi.f3 - Xk.f3)))) (offR Xk rate).2)) := Lib.hid rfl
  replace h0 := eq_true h0
  replace h1 := eq_true h1
  replace h2 := eq_true h2
  replace h3 := eq_true h3
  clear hc
  go_enter Try.func77, Try.ntmps77
  go_wp2
  have m3 : Blk (w.alloc (.cells #[.int .i64 par, .int .i64 rate, .slice (some ad) xs.length c] 30)) (w.heap.size) #[.int .i64 par, .int .i64 rate, .slice (some ad) xs.length c] 30 := (by have h_ := blk_new w (.cells #[.int .i64 par, .int .i64 rate, .slice (some ad) xs.length c] 30); first | exact h_ | (simp only [World.size_alloc] at h_; exact h_))
  have mB : Below w.heap.size w (w.alloc (.cells #[.int .i64 par, .int .i64 rate, .slice (some ad) xs.length c] 30)) := (below_alloc (Below.refl w.heap.size w) _)
  have hsz_ : w.heap.size ≤ w.heap.size := Nat.le_refl _
  generalize hW_ : (w.alloc (.cells #[.int .i64 par, .int .i64 rate, .slice (some ad) xs.length c] 30)) = W1 at m3 mB ⊢
  clear hW_
  generalize hg3 : w.heap.size = g3 at m3 ⊢
  have hG3 : w.heap.size ≤ g3 := by omega
  clear hsz_
  try clear hg3
  have hs_W1 : w.heap.size ≤ W1.heap.size := mB.size
  replace m3 := blk_drew m3
  replace mB := below_drew1 mB
  refine start_ (n := 14) (S := fun w' => w'.cell? ⟨g3, 0, none⟩ = some (.int .i64 par) ∧ w'.cell? ⟨g3, 1, none⟩ = some (.int .i64 rate) ∧ w'.cell? ⟨g3, 2, none⟩ = some (.slice (some ad) xs.length c) ∧ w'.cell? (ad.add (i.toNat * 8)) = some (.int .i64 Xi.f0) ∧ w'.cell? ⟨(ad.add (i.toNat * 8)).block, (ad.add (i.toNat * 8)).off + 1, none⟩ = some (.int .i64 Xi.f1) ∧ w'.cell? ⟨(ad.add (i.toNat * 8)).block, (ad.add (i.toNat * 8)).off + 2, none⟩ = some (.int .i64 Xi.f2) ∧ w'.cell? ⟨(ad.add (i.toNat * 8)).block, (ad.add (i.toNat * 8)).off + 3, none⟩ = some (.int .i64 Xi.f3) ∧ w'.cell? ⟨(ad.add (i.toNat * 8)).block, (ad.add (i.toNat * 8)).off + 4, none⟩ = some (.int .i64 Xi.f4.f0) ∧ w'.cell? ⟨(ad.add (i.toNat * 8)).block, (ad.add (i.toNat * 8)).off + 5, none⟩ = some (.int .i64 Xi.f4.f1) ∧ w'.cell? ⟨(ad.add (i.toNat * 8)).block, (ad.add (i.toNat * 8)).off + 6, none⟩ = some (.int .i64 Xi.f5.f0) ∧ w'.cell? ⟨(ad.add (i.toNat * 8)).block, (ad.add (i.toNat * 8)).off + 7, none⟩ = some (.int .i64 Xi.f5.f1) ∧ w'.cell? (ad.add (k.toNat * 8)) = some (.int .i64 Xk.f0) ∧ w'.cell? ⟨(ad.add (k.toNat * 8)).block, (ad.add (k.toNat * 8)).off + 1, none⟩ = some (.int .i64 Xk.f1) ∧ w'.cell? ⟨(ad.add (k.toNat * 8)).block, (ad.add (k.toNat * 8)).off + 2, none⟩ = some (.int .i64 Xk.f2) ∧ w'.cell? ⟨(ad.add (k.toNat * 8)).block, (ad.add (k.toNat * 8)).off + 3, none⟩ = some (.int .i64 Xk.f3) ∧ w'.cell? ⟨(ad.add (k.toNat * 8)).block, (ad.add (k.toNat * 8)).off + 4, none⟩ = some (.int .i64 Xk.f4.f0) ∧ w'.cell? ⟨(ad.add (k.toNat * 8)).block, (ad.add (k.toNat * 8)).off + 5, none⟩ = some (.int .i64 Xk.f4.f1) ∧ w'.cell? ⟨(ad.add (k.toNat * 8)).block, (ad.add (k.toNat * 8)).off + 6, none⟩ = some (.int .i64 Xk.f5.f0) ∧ w'.cell? ⟨(ad.add (k.toNat * 8)).block, (ad.add (k.toNat * 8)).off + 7, none⟩ = some (.int .i64 Xk.f5.f1)) (ds := []) #[false, false, false, false, false, false, false, false, false, false, false, false, false, false] (by kernel_rfl) rfl rfl ⟨((blk_cell m3 0).trans rfl), ((blk_cell m3 1).trans rfl), ((blk_cell m3 2).trans rfl), ((mB.cell (World.block_lt_of_cell? w _ hx0)).trans hx0), ((mB.cell (World.block_lt_of_cell? w _ hx1)).trans hx1), ((mB.cell (World.block_lt_of_cell? w _ hx2)).trans hx2), ((mB.cell (World.block_lt_of_cell? w _ hx3)).trans hx3), ((mB.cell (World.block_lt_of_cell? w _ hx4)).trans hx4), ((mB.cell (World.block_lt_of_cell? w _ hx5)).trans hx5), ((mB.cell (World.block_lt_of_cell? w _ hx6)).trans hx6), ((mB.cell (World.block_lt_of_cell? w _ hx7)).trans hx7), ((mB.cell (World.block_lt_of_cell? w _ hy0)).trans hy0), ((mB.cell (World.block_lt_of_cell? w _ hy1)).trans hy1), ((mB.cell (World.block_lt_of_cell? w _ hy2)).trans hy2), ((mB.cell (World.block_lt_of_cell? w _ hy3)).trans hy3), ((mB.cell (World.block_lt_of_cell? w _ hy4)).trans hy4), ((mB.cell (World.block_lt_of_cell? w _ hy5)).trans hy5), ((mB.cell (World.block_lt_of_cell? w _ hy6)).trans hy6), ((mB.cell (World.block_lt_of_cell? w _ hy7)).trans hy7)⟩ (fun hHeld => ?_)
  generalize hWd : World.drew _ = Wd at *
  clear hWd
  refine pure_ (i := 0) (N := some 10) (v := ?_) (a' := ?_) #[true, false, false, false, false, false, false, false, false, false, false, false, false, false] rfl rfl (by kernel_rfl) (fun _ _ _ h => h) (Or.inl ⟨by rfl, ?_⟩) ?_ ?_
  rotate_left
  · intro w'
    go_simp
    with_reducible rfl
  rotate_left
  · simp only [Act.put, List.setIfInBounds_toArray, List.set_cons_zero, List.set_cons_succ, i64_w, i32_w]
    rfl
  refine pure_ (i := 2) (N := some 12) (v := ?_) (a' := ?_) #[true, false, true, false, false, false, false, false, false, false, false, false, false, false] rfl rfl (by kernel_rfl) (fun _ _ _ h => h) (Or.inl ⟨by rfl, ?_⟩) ?_ ?_
  rotate_left
  · intro w'
    go_simp
    with_reducible rfl
  rotate_left
  · simp only [Act.put, List.setIfInBounds_toArray, List.set_cons_zero, List.set_cons_succ, i64_w, i32_w]
    rfl
  refine pure_ (i := 5) (N := some 15) (v := ?_) (a' := ?_) #[true, false, true, false, false, true, false, false, false, false, false, false, false, false] rfl rfl (by kernel_rfl) (fun _ _ _ h => h) (Or.inl ⟨by rfl, ?_⟩) ?_ ?_
  rotate_left
  · intro w'
    go_simp
    with_reducible rfl
  rotate_left
  · simp only [Act.put, List.setIfInBounds_toArray, List.set_cons_zero, List.set_cons_succ, i64_w, i32_w]
    rfl
  refine pure_ (i := 7) (N := some 17) (v := ?_) (a' := ?_) #[true, false, true, false, false, true, false, true, false, false, false, false, false, false] rfl rfl (by kernel_rfl) (fun _ _ _ h => h) (Or.inl ⟨by rfl, ?_⟩) ?_ ?_
  rotate_left
  · intro w'
    go_simp
    with_reducible rfl
  rotate_left
  · simp only [Act.put, List.setIfInBounds_toArray, List.set_cons_zero, List.set_cons_succ, i64_w, i32_w]
    rfl
  refine take_ (i := 1) (N := some 11) (v := ?_) (a' := ?_) #[true, true, true, false, false, true, false, true, false, false, false, false, false, false] rfl rfl (by kernel_rfl) (fun _ _ _ h => h) (Or.inl ⟨by rfl, ?_⟩) hHeld ?_ ?_
  rotate_left
  · rintro w' ⟨s0, s1, s2, s3, s4, s5, s6, s7, s8, s9, s10, s11, s12, s13, s14, s15, s16, s17, s18⟩
    go_simp
    with_reducible rfl
  rotate_left
  · simp only [Act.put, List.setIfInBounds_toArray, List.set_cons_zero, List.set_cons_succ, i64_w, i32_w]
    rfl
  refine pure_ (i := 3) (N := some 13) (v := ?_) (a' := ?_) #[true, true, true, true, false, true, false, true, false, false, false, false, false, false] rfl rfl (by kernel_rfl) (fun _ _ _ h => h) (Or.inl ⟨by rfl, ?_⟩) ?_ ?_
  rotate_left
  · intro w'
    go_simp
    with_reducible rfl
  rotate_left
  · simp only [Act.put, List.setIfInBounds_toArray, List.set_cons_zero, List.set_cons_succ, i64_w, i32_w]
    rfl
  refine take_ (i := 4) (N := some 14) (v := ?_) (a' := ?_) #[true, true, true, true, true, true, false, true, false, false, false, false, false, false] rfl rfl (by kernel_rfl) (fun _ _ _ h => h) (Or.inl ⟨by rfl, ?_⟩) hHeld ?_ ?_
  rotate_left
  · rintro w' ⟨s0, s1, s2, s3, s4, s5, s6, s7, s8, s9, s10, s11, s12, s13, s14, s15, s16, s17, s18⟩
    go_simp
    with_reducible rfl
  rotate_left
  · simp only [Act.put, List.setIfInBounds_toArray, List.set_cons_zero, List.set_cons_succ, i64_w, i32_w]
    rfl
  refine take_ (i := 6) (N := some 16) (v := ?_) (a' := ?_) #[true, true, true, true, true, true, true, true, false, false, false, false, false, false] rfl rfl (by kernel_rfl) (fun _ _ _ h => h) (Or.inl ⟨by rfl, ?_⟩) hHeld ?_ ?_
  rotate_left
  · rintro w' ⟨s0, s1, s2, s3, s4, s5, s6, s7, s8, s9, s10, s11, s12, s13, s14, s15, s16, s17, s18⟩
    go_simp
    with_reducible rfl
  rotate_left
  · simp only [Act.put, List.setIfInBounds_toArray, List.set_cons_zero, List.set_cons_succ, i64_w, i32_w]
    rfl
  refine pure_ (i := 8) (N := some 18) (v := ?_) (a' := ?_) #[true, true, true, true, true, true, true, true, true, false, false, false, false, false] rfl rfl (by kernel_rfl) (fun _ _ _ h => h) (Or.inl ⟨by rfl, ?_⟩) ?_ ?_
  rotate_left
  · intro w'
    go_simp
    with_reducible rfl
  rotate_left
  · simp only [Act.put, List.setIfInBounds_toArray, List.set_cons_zero, List.set_cons_succ, i64_w, i32_w]
    rfl
  refine take_ (i := 9) (N := some 19) (v := ?_) (a' := ?_) #[true, true, true, true, true, true, true, true, true, true, false, false, false, false] rfl rfl (by kernel_rfl) (fun _ _ _ h => h) (Or.inl ⟨by rfl, ?_⟩) hHeld ?_ ?_
  rotate_left
  · rintro w' ⟨s0, s1, s2, s3, s4, s5, s6, s7, s8, s9, s10, s11, s12, s13, s14, s15, s16, s17, s18⟩
    go_simp
    with_reducible rfl
  rotate_left
  · simp only [Act.put, List.setIfInBounds_toArray, List.set_cons_zero, List.set_cons_succ, i64_w, i32_w]
    rfl
  refine join_ (σ := Nat × Nat) 2 #[true, true, true, true, true, true, true, true, true, true, true, true, false, false] (fun s => [(7, .pointer (some ⟨s.1, 0, none⟩)), (8, .pointer (some ⟨s.2, 0, none⟩))]) (fun s w' => Blk w' g3 #[.int .i64 par, .int .i64 rate, .slice (some ad) xs.length c] 30 ∧ Blk w' (s.1) #[.int .i64 0, .int .i64 0, .int .i64 0, .int .i64 0, .int .i64 0, .int .i64 0, .int .i64 0, .int .i64 0] 46 ∧ Blk w' (s.2) #[.int .i64 0, .int .i64 0, .int .i64 0, .int .i64 0, .int .i64 0, .int .i64 0, .int .i64 0, .int .i64 0] 46 ∧ Below w.heap.size w w' ∧ w.heap.size ≤ s.1 ∧ w.heap.size ≤ s.2 ∧ g3 ≠ s.1 ∧ g3 ≠ s.2 ∧ s.1 ≠ s.2) ?_ ?_
  rotate_left
  · intro hCont
    refine two_ (i := 10) (j := 11) (Ni := some 7) (Nj := some 8) #[true, true, true, true, true, true, true, true, true, true, true, false, false, false] #[true, true, true, true, true, true, true, true, true, true, false, true, false, false] rfl rfl rfl rfl (by kernel_rfl) (by decide) (by decide) (fun K hK => ?_) (fun K hK => ?_)
    · skip
      have hn_3_7 : g3 ≠ Wd.heap.size := by have h_ := blk_lt m3; omega
      have hG7 : w.heap.size ≤ Wd.heap.size := by have h_ := mB.size; omega
      replace m3 := blk_alloc m3 (.cells #[.int .i64 0, .int .i64 0, .int .i64 0, .int .i64 0, .int .i64 0, .int .i64 0, .int .i64 0, .int .i64 0] 46)
      have m7 : Blk (Wd.alloc (.cells #[.int .i64 0, .int .i64 0, .int .i64 0, .int .i64 0, .int .i64 0, .int .i64 0, .int .i64 0, .int .i64 0] 46)) (Wd.heap.size) #[.int .i64 0, .int .i64 0, .int .i64 0, .int .i64 0, .int .i64 0, .int .i64 0, .int .i64 0, .int .i64 0] 46 := by have h_ := blk_new Wd (.cells #[.int .i64 0, .int .i64 0, .int .i64 0, .int .i64 0, .int .i64 0, .int .i64 0, .int .i64 0, .int .i64 0] 46); first | exact h_ | (simp only [World.size_alloc] at h_; exact h_)
      replace mB := below_alloc mB (.cells #[.int .i64 0, .int .i64 0, .int .i64 0, .int .i64 0, .int .i64 0, .int .i64 0, .int .i64 0, .int .i64 0] 46)
      refine value_ (w1 := ?_) (v := ?_) (by rfl) rfl ?_ ?_
      rotate_left 2
      · go_simp
        constructor
        · rfl
        · rfl
      refine hK.out _ _ ⟨((blk_cell m3 0).trans rfl), ((blk_cell m3 1).trans rfl), ((blk_cell m3 2).trans rfl), ((mB.cell (World.block_lt_of_cell? w _ hx0)).trans hx0), ((mB.cell (World.block_lt_of_cell? w _ hx1)).trans hx1), ((mB.cell (World.block_lt_of_cell? w _ hx2)).trans hx2), ((mB.cell (World.block_lt_of_cell? w _ hx3)).trans hx3), ((mB.cell (World.block_lt_of_cell? w _ hx4)).trans hx4), ((mB.cell (World.block_lt_of_cell? w _ hx5)).trans hx5), ((mB.cell (World.block_lt_of_cell? w _ hx6)).trans hx6), ((mB.cell (World.block_lt_of_cell? w _ hx7)).trans hx7), ((mB.cell (World.block_lt_of_cell? w _ hy0)).trans hy0), ((mB.cell (World.block_lt_of_cell? w _ hy1)).trans hy1), ((mB.cell (World.block_lt_of_cell? w _ hy2)).trans hy2), ((mB.cell (World.block_lt_of_cell? w _ hy3)).trans hy3), ((mB.cell (World.block_lt_of_cell? w _ hy4)).trans hy4), ((mB.cell (World.block_lt_of_cell? w _ hy5)).trans hy5), ((mB.cell (World.block_lt_of_cell? w _ hy6)).trans hy6), ((mB.cell (World.block_lt_of_cell? w _ hy7)).trans hy7)⟩ (fun hHeld => ?_)
      clear hK K
      refine norm_ (a' := ?_) ?_ ?_
      rotate_left
      · show Act.put _ (some 7) _ = _
        simp only [Act.put, List.setIfInBounds_toArray, List.set_cons_zero, List.set_cons_succ, i64_w, i32_w]
        rfl
      refine one_ (i := 11) (N := some 8) #[true, true, true, true, true, true, true, true, true, true, true, true, false, false] rfl rfl (by kernel_rfl) (by decide) (fun K hK => ?_)
      have hn_3_8 : g3 ≠ Wd.heap.size + 1 := by have h_ := blk_lt m3; simp only [World.size_alloc] at h_; omega
      have hn_7_8 : Wd.heap.size ≠ Wd.heap.size + 1 := by have h_ := blk_lt m7; simp only [World.size_alloc] at h_; omega
      have hG8 : w.heap.size ≤ Wd.heap.size + 1 := by have h_ := mB.size; simp only [World.size_alloc] at h_; omega
      replace m3 := blk_alloc m3 (.cells #[.int .i64 0, .int .i64 0, .int .i64 0, .int .i64 0, .int .i64 0, .int .i64 0, .int .i64 0, .int .i64 0] 46)
      replace m7 := blk_alloc m7 (.cells #[.int .i64 0, .int .i64 0, .int .i64 0, .int .i64 0, .int .i64 0, .int .i64 0, .int .i64 0, .int .i64 0] 46)
      have m8 : Blk ((Wd.alloc (.cells #[.int .i64 0, .int .i64 0, .int .i64 0, .int .i64 0, .int .i64 0, .int .i64 0, .int .i64 0, .int .i64 0] 46)).alloc (.cells #[.int .i64 0, .int .i64 0, .int .i64 0, .int .i64 0, .int .i64 0, .int .i64 0, .int .i64 0, .int .i64 0] 46)) (Wd.heap.size + 1) #[.int .i64 0, .int .i64 0, .int .i64 0, .int .i64 0, .int .i64 0, .int .i64 0, .int .i64 0, .int .i64 0] 46 := by have h_ := blk_new (Wd.alloc (.cells #[.int .i64 0, .int .i64 0, .int .i64 0, .int .i64 0, .int .i64 0, .int .i64 0, .int .i64 0, .int .i64 0] 46)) (.cells #[.int .i64 0, .int .i64 0, .int .i64 0, .int .i64 0, .int .i64 0, .int .i64 0, .int .i64 0, .int .i64 0] 46); first | exact h_ | (simp only [World.size_alloc] at h_; exact h_)
      replace mB := below_alloc mB (.cells #[.int .i64 0, .int .i64 0, .int .i64 0, .int .i64 0, .int .i64 0, .int .i64 0, .int .i64 0, .int .i64 0] 46)
      refine value_ (w1 := ?_) (v := ?_) (by rfl) rfl ?_ ?_
      rotate_left 2
      · go_simp
        constructor
        · rfl
        · rfl
      refine hK.out _ _ ⟨((blk_cell m3 0).trans rfl), ((blk_cell m3 1).trans rfl), ((blk_cell m3 2).trans rfl), ((mB.cell (World.block_lt_of_cell? w _ hx0)).trans hx0), ((mB.cell (World.block_lt_of_cell? w _ hx1)).trans hx1), ((mB.cell (World.block_lt_of_cell? w _ hx2)).trans hx2), ((mB.cell (World.block_lt_of_cell? w _ hx3)).trans hx3), ((mB.cell (World.block_lt_of_cell? w _ hx4)).trans hx4), ((mB.cell (World.block_lt_of_cell? w _ hx5)).trans hx5), ((mB.cell (World.block_lt_of_cell? w _ hx6)).trans hx6), ((mB.cell (World.block_lt_of_cell? w _ hx7)).trans hx7), ((mB.cell (World.block_lt_of_cell? w _ hy0)).trans hy0), ((mB.cell (World.block_lt_of_cell? w _ hy1)).trans hy1), ((mB.cell (World.block_lt_of_cell? w _ hy2)).trans hy2), ((mB.cell (World.block_lt_of_cell? w _ hy3)).trans hy3), ((mB.cell (World.block_lt_of_cell? w _ hy4)).trans hy4), ((mB.cell (World.block_lt_of_cell? w _ hy5)).trans hy5), ((mB.cell (World.block_lt_of_cell? w _ hy6)).trans hy6), ((mB.cell (World.block_lt_of_cell? w _ hy7)).trans hy7)⟩ (fun hHeld => ?_)
      clear hK K
      refine norm_ (a' := ?_) ?_ ?_
      rotate_left
      · show Act.put _ (some 8) _ = _
        simp only [Act.put, List.setIfInBounds_toArray, List.set_cons_zero, List.set_cons_succ, i64_w, i32_w]
        rfl
      exact norm_ (by first | (simp only [putAll, Act.put, List.setIfInBounds_toArray, List.set_cons_zero, List.set_cons_succ]; done) | (simp only [putAll, Act.put, List.setIfInBounds_toArray, List.set_cons_zero, List.set_cons_succ]; rfl)) (hCont ((Wd.heap.size, Wd.heap.size + 1)) _ ⟨m3, m7, m8, mB, hG7, hG8, hn_3_7, hn_3_8, hn_7_8⟩)
    · skip
      have hn_3_8 : g3 ≠ Wd.heap.size := by have h_ := blk_lt m3; omega
      have hG8 : w.heap.size ≤ Wd.heap.size := by have h_ := mB.size; omega
      replace m3 := blk_alloc m3 (.cells #[.int .i64 0, .int .i64 0, .int .i64 0, .int .i64 0, .int .i64 0, .int .i64 0, .int .i64 0, .int .i64 0] 46)
      have m8 : Blk (Wd.alloc (.cells #[.int .i64 0, .int .i64 0, .int .i64 0, .int .i64 0, .int .i64 0, .int .i64 0, .int .i64 0, .int .i64 0] 46)) (Wd.heap.size) #[.int .i64 0, .int .i64 0, .int .i64 0, .int .i64 0, .int .i64 0, .int .i64 0, .int .i64 0, .int .i64 0] 46 := by have h_ := blk_new Wd (.cells #[.int .i64 0, .int .i64 0, .int .i64 0, .int .i64 0, .int .i64 0, .int .i64 0, .int .i64 0, .int .i64 0] 46); first | exact h_ | (simp only [World.size_alloc] at h_; exact h_)
      replace mB := below_alloc mB (.cells #[.int .i64 0, .int .i64 0, .int .i64 0, .int .i64 0, .int .i64 0, .int .i64 0, .int .i64 0, .int .i64 0] 46)
      refine value_ (w1 := ?_) (v := ?_) (by rfl) rfl ?_ ?_
      rotate_left 2
      · go_simp
        constructor
        · rfl
        · rfl
      refine hK.out _ _ ⟨((blk_cell m3 0).trans rfl), ((blk_cell m3 1).trans rfl), ((blk_cell m3 2).trans rfl), ((mB.cell (World.block_lt_of_cell? w _ hx0)).trans hx0), ((mB.cell (World.block_lt_of_cell? w _ hx1)).trans hx1), ((mB.cell (World.block_lt_of_cell? w _ hx2)).trans hx2), ((mB.cell (World.block_lt_of_cell? w _ hx3)).trans hx3), ((mB.cell (World.block_lt_of_cell? w _ hx4)).trans hx4), ((mB.cell (World.block_lt_of_cell? w _ hx5)).trans hx5), ((mB.cell (World.block_lt_of_cell? w _ hx6)).trans hx6), ((mB.cell (World.block_lt_of_cell? w _ hx7)).trans hx7), ((mB.cell (World.block_lt_of_cell? w _ hy0)).trans hy0), ((mB.cell (World.block_lt_of_cell? w _ hy1)).trans hy1), ((mB.cell (World.block_lt_of_cell? w _ hy2)).trans hy2), ((mB.cell (World.block_lt_of_cell? w _ hy3)).trans hy3), ((mB.cell (World.block_lt_of_cell? w _ hy4)).trans hy4), ((mB.cell (World.block_lt_of_cell? w _ hy5)).trans hy5), ((mB.cell (World.block_lt_of_cell? w _ hy6)).trans hy6), ((mB.cell (World.block_lt_of_cell? w _ hy7)).trans hy7)⟩ (fun hHeld => ?_)
      clear hK K
      refine norm_ (a' := ?_) ?_ ?_
      rotate_left
      · show Act.put _ (some 8) _ = _
        simp only [Act.put, List.setIfInBounds_toArray, List.set_cons_zero, List.set_cons_succ, i64_w, i32_w]
        rfl
      refine one_ (i := 10) (N := some 7) #[true, true, true, true, true, true, true, true, true, true, true, true, false, false] rfl rfl (by kernel_rfl) (by decide) (fun K hK => ?_)
      have hn_3_7 : g3 ≠ Wd.heap.size + 1 := by have h_ := blk_lt m3; simp only [World.size_alloc] at h_; omega
      have hn_8_7 : Wd.heap.size ≠ Wd.heap.size + 1 := by have h_ := blk_lt m8; simp only [World.size_alloc] at h_; omega
      have hG7 : w.heap.size ≤ Wd.heap.size + 1 := by have h_ := mB.size; simp only [World.size_alloc] at h_; omega
      replace m3 := blk_alloc m3 (.cells #[.int .i64 0, .int .i64 0, .int .i64 0, .int .i64 0, .int .i64 0, .int .i64 0, .int .i64 0, .int .i64 0] 46)
      replace m8 := blk_alloc m8 (.cells #[.int .i64 0, .int .i64 0, .int .i64 0, .int .i64 0, .int .i64 0, .int .i64 0, .int .i64 0, .int .i64 0] 46)
      have m7 : Blk ((Wd.alloc (.cells #[.int .i64 0, .int .i64 0, .int .i64 0, .int .i64 0, .int .i64 0, .int .i64 0, .int .i64 0, .int .i64 0] 46)).alloc (.cells #[.int .i64 0, .int .i64 0, .int .i64 0, .int .i64 0, .int .i64 0, .int .i64 0, .int .i64 0, .int .i64 0] 46)) (Wd.heap.size + 1) #[.int .i64 0, .int .i64 0, .int .i64 0, .int .i64 0, .int .i64 0, .int .i64 0, .int .i64 0, .int .i64 0] 46 := by have h_ := blk_new (Wd.alloc (.cells #[.int .i64 0, .int .i64 0, .int .i64 0, .int .i64 0, .int .i64 0, .int .i64 0, .int .i64 0, .int .i64 0] 46)) (.cells #[.int .i64 0, .int .i64 0, .int .i64 0, .int .i64 0, .int .i64 0, .int .i64 0, .int .i64 0, .int .i64 0] 46); first | exact h_ | (simp only [World.size_alloc] at h_; exact h_)
      replace mB := below_alloc mB (.cells #[.int .i64 0, .int .i64 0, .int .i64 0, .int .i64 0, .int .i64 0, .int .i64 0, .int .i64 0, .int .i64 0] 46)
      refine value_ (w1 := ?_) (v := ?_) (by rfl) rfl ?_ ?_
      rotate_left 2
      · go_simp
        constructor
        · rfl
        · rfl
      refine hK.out _ _ ⟨((blk_cell m3 0).trans rfl), ((blk_cell m3 1).trans rfl), ((blk_cell m3 2).trans rfl), ((mB.cell (World.block_lt_of_cell? w _ hx0)).trans hx0), ((mB.cell (World.block_lt_of_cell? w _ hx1)).trans hx1), ((mB.cell (World.block_lt_of_cell? w _ hx2)).trans hx2), ((mB.cell (World.block_lt_of_cell? w _ hx3)).trans hx3), ((mB.cell (World.block_lt_of_cell? w _ hx4)).trans hx4), ((mB.cell (World.block_lt_of_cell? w _ hx5)).trans hx5), ((mB.cell (World.block_lt_of_cell? w _ hx6)).trans hx6), ((mB.cell (World.block_lt_of_cell? w _ hx7)).trans hx7), ((mB.cell (World.block_lt_of_cell? w _ hy0)).trans hy0), ((mB.cell (World.block_lt_of_cell? w _ hy1)).trans hy1), ((mB.cell (World.block_lt_of_cell? w _ hy2)).trans hy2), ((mB.cell (World.block_lt_of_cell? w _ hy3)).trans hy3), ((mB.cell (World.block_lt_of_cell? w _ hy4)).trans hy4), ((mB.cell (World.block_lt_of_cell? w _ hy5)).trans hy5), ((mB.cell (World.block_lt_of_cell? w _ hy6)).trans hy6), ((mB.cell (World.block_lt_of_cell? w _ hy7)).trans hy7)⟩ (fun hHeld => ?_)
      clear hK K
      refine norm_ (a' := ?_) ?_ ?_
      rotate_left
      · show Act.put _ (some 7) _ = _
        simp only [Act.put, List.setIfInBounds_toArray, List.set_cons_zero, List.set_cons_succ, i64_w, i32_w]
        rfl
      exact norm_ (by first | (simp only [putAll, Act.put, List.setIfInBounds_toArray, List.set_cons_zero, List.set_cons_succ]; done) | (simp only [putAll, Act.put, List.setIfInBounds_toArray, List.set_cons_zero, List.set_cons_succ]; rfl)) (hCont ((Wd.heap.size + 1, Wd.heap.size)) _ ⟨m3, m7, m8, mB, hG7, hG8, hn_3_7, hn_3_8, hn_8_7.symm⟩)
  rintro ⟨g7, g8⟩ Wf ⟨m3, m7, m8, mB, hG7, hG8, hn_3_7, hn_3_8, hn_7_8⟩
  dsimp only at m3 m7 m8 mB hG7 hG8 hn_3_7 hn_3_8 hn_7_8
  have hHeld : (Wf.cell? ⟨g3, 0, none⟩ = some (.int .i64 par) ∧ Wf.cell? ⟨g3, 1, none⟩ = some (.int .i64 rate) ∧ Wf.cell? ⟨g3, 2, none⟩ = some (.slice (some ad) xs.length c) ∧ Wf.cell? (ad.add (i.toNat * 8)) = some (.int .i64 Xi.f0) ∧ Wf.cell? ⟨(ad.add (i.toNat * 8)).block, (ad.add (i.toNat * 8)).off + 1, none⟩ = some (.int .i64 Xi.f1) ∧ Wf.cell? ⟨(ad.add (i.toNat * 8)).block, (ad.add (i.toNat * 8)).off + 2, none⟩ = some (.int .i64 Xi.f2) ∧ Wf.cell? ⟨(ad.add (i.toNat * 8)).block, (ad.add (i.toNat * 8)).off + 3, none⟩ = some (.int .i64 Xi.f3) ∧ Wf.cell? ⟨(ad.add (i.toNat * 8)).block, (ad.add (i.toNat * 8)).off + 4, none⟩ = some (.int .i64 Xi.f4.f0) ∧ Wf.cell? ⟨(ad.add (i.toNat * 8)).block, (ad.add (i.toNat * 8)).off + 5, none⟩ = some (.int .i64 Xi.f4.f1) ∧ Wf.cell? ⟨(ad.add (i.toNat * 8)).block, (ad.add (i.toNat * 8)).off + 6, none⟩ = some (.int .i64 Xi.f5.f0) ∧ Wf.cell? ⟨(ad.add (i.toNat * 8)).block, (ad.add (i.toNat * 8)).off + 7, none⟩ = some (.int .i64 Xi.f5.f1) ∧ Wf.cell? (ad.add (k.toNat * 8)) = some (.int .i64 Xk.f0) ∧ Wf.cell? ⟨(ad.add (k.toNat * 8)).block, (ad.add (k.toNat * 8)).off + 1, none⟩ = some (.int .i64 Xk.f1) ∧ Wf.cell? ⟨(ad.add (k.toNat * 8)).block, (ad.add (k.toNat * 8)).off + 2, none⟩ = some (.int .i64 Xk.f2) ∧ Wf.cell? ⟨(ad.add (k.toNat * 8)).block, (ad.add (k.toNat * 8)).off + 3, none⟩ = some (.int .i64 Xk.f3) ∧ Wf.cell? ⟨(ad.add (k.toNat * 8)).block, (ad.add (k.toNat * 8)).off + 4, none⟩ = some (.int .i64 Xk.f4.f0) ∧ Wf.cell? ⟨(ad.add (k.toNat * 8)).block, (ad.add (k.toNat * 8)).off + 5, none⟩ = some (.int .i64 Xk.f4.f1) ∧ Wf.cell? ⟨(ad.add (k.toNat * 8)).block, (ad.add (k.toNat * 8)).off + 6, none⟩ = some (.int .i64 Xk.f5.f0) ∧ Wf.cell? ⟨(ad.add (k.toNat * 8)).block, (ad.add (k.toNat * 8)).off + 7, none⟩ = some (.int .i64 Xk.f5.f1)) := ⟨((blk_cell m3 0).trans rfl), ((blk_cell m3 1).trans rfl), ((blk_cell m3 2).trans rfl), ((mB.cell (World.block_lt_of_cell? w _ hx0)).trans hx0), ((mB.cell (World.block_lt_of_cell? w _ hx1)).trans hx1), ((mB.cell (World.block_lt_of_cell? w _ hx2)).trans hx2), ((mB.cell (World.block_lt_of_cell? w _ hx3)).trans hx3), ((mB.cell (World.block_lt_of_cell? w _ hx4)).trans hx4), ((mB.cell (World.block_lt_of_cell? w _ hx5)).trans hx5), ((mB.cell (World.block_lt_of_cell? w _ hx6)).trans hx6), ((mB.cell (World.block_lt_of_cell? w _ hx7)).trans hx7), ((mB.cell (World.block_lt_of_cell? w _ hy0)).trans hy0), ((mB.cell (World.block_lt_of_cell? w _ hy1)).trans hy1), ((mB.cell (World.block_lt_of_cell? w _ hy2)).trans hy2), ((mB.cell (World.block_lt_of_cell? w _ hy3)).trans hy3), ((mB.cell (World.block_lt_of_cell? w _ hy4)).trans hy4), ((mB.cell (World.block_lt_of_cell? w _ hy5)).trans hy5), ((mB.cell (World.block_lt_of_cell? w _ hy6)).trans hy6), ((mB.cell (World.block_lt_of_cell? w _ hy7)).trans hy7)⟩
  refine norm_ (a' := ?_) ?_ ?_
  rotate_left
  · simp only [putAll, Act.put, List.setIfInBounds_toArray, List.set_cons_zero, List.set_cons_succ]
    rfl
  refine one_ (i := 12) (N := none) #[true, true, true, true, true, true, true, true, true, true, true, true, true, false] rfl rfl (by kernel_rfl) (by decide) (fun K hK => ?_)
  have hn_8_7 := hn_7_8.symm
  have hf0_ := blk_frozen m7 0
  have hc0_ := (blk_cell m7 0).trans rfl
  have hf1_ := blk_frozen m7 1
  have hc1_ := (blk_cell m7 1).trans rfl
  have hf2_ := blk_frozen m7 2
  have hc2_ := (blk_cell m7 2).trans rfl
  have hf3_ := blk_frozen m7 3
  have hc3_ := (blk_cell m7 3).trans rfl
  have hf4_ := blk_frozen m7 4
  have hc4_ := (blk_cell m7 4).trans rfl
  have hf5_ := blk_frozen m7 5
  have hc5_ := (blk_cell m7 5).trans rfl
  have hf6_ := blk_frozen m7 6
  have hc6_ := (blk_cell m7 6).trans rfl
  have hf7_ := blk_frozen m7 7
  have hc7_ := (blk_cell m7 7).trans rfl
  refine skip_ (w1 := ?_) (by rfl) rfl ?_ ?_
  rotate_left
  · go_simp
    rfl
  clear hf0_ hc0_ hf1_ hc1_ hf2_ hc2_ hf3_ hc3_ hf4_ hc4_ hf5_ hc5_ hf6_ hc6_ hf7_ hc7_
  replace m3 : Blk (Wf.setCell ⟨g7, 0, none⟩ (.int .i64 Xi.f0)) g3 #[.int .i64 par, .int .i64 rate, .slice (some ad) xs.length c] 30 := blk_far (p := ⟨g7, 0, none⟩) m3 hn_3_7 _
  replace m8 : Blk (Wf.setCell ⟨g7, 0, none⟩ (.int .i64 Xi.f0)) g8 #[.int .i64 0, .int .i64 0, .int .i64 0, .int .i64 0, .int .i64 0, .int .i64 0, .int .i64 0, .int .i64 0] 46 := blk_far (p := ⟨g7, 0, none⟩) m8 hn_8_7 _
  replace m7 : Blk (Wf.setCell ⟨g7, 0, none⟩ (.int .i64 Xi.f0)) g7 #[.int .i64 Xi.f0, .int .i64 0, .int .i64 0, .int .i64 0, .int .i64 0, .int .i64 0, .int .i64 0, .int .i64 0] 46 := blk_put m7 0 _ rfl
  replace mB : Below w.heap.size w (Wf.setCell ⟨g7, 0, none⟩ (.int .i64 Xi.f0)) := mB.setCell (p := ⟨g7, 0, none⟩) hG7 _
  replace m3 : Blk ((Wf.setCell ⟨g7, 0, none⟩ (.int .i64 Xi.f0)).setCell ⟨g7, 1, none⟩ (.int .i64 Xi.f1)) g3 #[.int .i64 par, .int .i64 rate, .slice (some ad) xs.length c] 30 := blk_far (p := ⟨g7, 1, none⟩) m3 hn_3_7 _
  replace m8 : Blk ((Wf.setCell ⟨g7, 0, none⟩ (.int .i64 Xi.f0)).setCell ⟨g7, 1, none⟩ (.int .i64 Xi.f1)) g8 #[.int .i64 0, .int .i64 0, .int .i64 0, .int .i64 0, .int .i64 0, .int .i64 0, .int .i64 0, .int .i64 0] 46 := blk_far (p := ⟨g7, 1, none⟩) m8 hn_8_7 _
  replace m7 : Blk ((Wf.setCell ⟨g7, 0, none⟩ (.int .i64 Xi.f0)).setCell ⟨g7, 1, none⟩ (.int .i64 Xi.f1)) g7 #[.int .i64 Xi.f0, .int .i64 Xi.f1, .int .i64 0, .int .i64 0, .int .i64 0, .int .i64 0, .int .i64 0, .int .i64 0] 46 := blk_put m7 1 _ rfl
  replace mB : Below w.heap.size w ((Wf.setCell ⟨g7, 0, none⟩ (.int .i64 Xi.f0)).setCell ⟨g7, 1, none⟩ (.int .i64 Xi.f1)) := mB.setCell (p := ⟨g7, 1, none⟩) hG7 _
  replace m3 : Blk (((Wf.setCell ⟨g7, 0, none⟩ (.int .i64 Xi.f0)).setCell ⟨g7, 1, none⟩ (.int .i64 Xi.f1)).setCell ⟨g7, 2, none⟩ (.int .i64 Xi.f2)) g3 #[.int .i64 par, .int .i64 rate, .slice (some ad) xs.length c] 30 := blk_far (p := ⟨g7, 2, none⟩) m3 hn_3_7 _
  replace m8 : Blk (((Wf.setCell ⟨g7, 0, none⟩ (.int .i64 Xi.f0)).setCell ⟨g7, 1, none⟩ (.int .i64 Xi.f1)).setCell ⟨g7, 2, none⟩ (.int .i64 Xi.f2)) g8 #[.int .i64 0, .int .i64 0, .int .i64 0, .int .i64 0, .int .i64 0, .int .i64 0, .int .i64 0, .int .i64 0] 46 := blk_far (p := ⟨g7, 2, none⟩) m8 hn_8_7 _
  replace m7 : Blk (((Wf.setCell ⟨g7, 0, none⟩ (.int .i64 Xi.f0)).setCell ⟨g7, 1, none⟩ (.int .i64 Xi.f1)).setCell ⟨g7, 2, none⟩ (.int .i64 Xi.f2)) g7 #[.int .i64 Xi.f0, .int .i64 Xi.f1, .int .i64 Xi.f2, .int .i64 0, .int .i64 0, .int .i64 0, .int .i64 0, .int .i64 0] 46 := blk_put m7 2 _ rfl
  replace mB : Below w.heap.size w (((Wf.setCell ⟨g7, 0, none⟩ (.int .i64 Xi.f0)).setCell ⟨g7, 1, none⟩ (.int .i64 Xi.f1)).setCell ⟨g7, 2, none⟩ (.int .i64 Xi.f2)) := mB.setCell (p := ⟨g7, 2, none⟩) hG7 _
  replace m3 : Blk ((((Wf.setCell ⟨g7, 0, none⟩ (.int .i64 Xi.f0)).setCell ⟨g7, 1, none⟩ (.int .i64 Xi.f1)).setCell ⟨g7, 2, none⟩ (.int .i64 Xi.f2)).setCell ⟨g7, 3, none⟩ (.int .i64 Xi.f3)) g3 #[.int .i64 par, .int .i64 rate, .slice (some ad) xs.length c] 30 := blk_far (p := ⟨g7, 3, none⟩) m3 hn_3_7 _
  replace m8 : Blk ((((Wf.setCell ⟨g7, 0, none⟩ (.int .i64 Xi.f0)).setCell ⟨g7, 1, none⟩ (.int .i64 Xi.f1)).setCell ⟨g7, 2, none⟩ (.int .i64 Xi.f2)).setCell ⟨g7, 3, none⟩ (.int .i64 Xi.f3)) g8 #[.int .i64 0, .int .i64 0, .int .i64 0, .int .i64 0, .int .i64 0, .int .i64 0, .int .i64 0, .int .i64 0] 46 := blk_far (p := ⟨g7, 3, none⟩) m8 hn_8_7 _
  replace m7 : Blk ((((Wf.setCell ⟨g7, 0, none⟩ (.int .i64 Xi.f0)).setCell ⟨g7, 1, none⟩ (.int .i64 Xi.f1)).setCell ⟨g7, 2, none⟩ (.int .i64 Xi.f2)).setCell ⟨g7, 3, none⟩ (.int .i64 Xi.f3)) g7 #[.int .i64 Xi.f0, .int .i64 Xi.f1, .int .i64 Xi.f2, .int .i64 Xi.f3, .int .i64 0, .int .i64 0, .int .i64 0, .int .i64 0] 46 := blk_put m7 3 _ rfl
  replace mB : Below w.heap.size w ((((Wf.setCell ⟨g7, 0, none⟩ (.int .i64 Xi.f0)).setCell ⟨g7, 1, none⟩ (.int .i64 Xi.f1)).setCell ⟨g7, 2, none⟩ (.int .i64 Xi.f2)).setCell ⟨g7, 3, none⟩ (.int .i64 Xi.f3)) := mB.setCell (p := ⟨g7, 3, none⟩) hG7 _
  replace m3 : Blk (((((Wf.setCell ⟨g7, 0, none⟩ (.int .i64 Xi.f0)).setCell ⟨g7, 1, none⟩ (.int .i64 Xi.f1)).setCell ⟨g7, 2, none⟩ (.int .i64 Xi.f2)).setCell ⟨g7, 3, none⟩ (.int .i64 Xi.f3)).setCell ⟨g7, 4, none⟩ (.int .i64 Xi.f4.f0)) g3 #[.int .i64 par, .int .i64 rate, .slice (some ad) xs.length c] 30 := blk_far (p := ⟨g7, 4, none⟩) m3 hn_3_7 _
  replace m8 : Blk (((((Wf.setCell ⟨g7, 0, none⟩ (.int .i64 Xi.f0)).setCell ⟨g7, 1, none⟩ (.int .i64 Xi.f1)).setCell ⟨g7, 2, none⟩ (.int .i64 Xi.f2)).setCell ⟨g7, 3, none⟩ (.int .i64 Xi.f3)).setCell ⟨g7, 4, none⟩ (.int .i64 Xi.f4.f0)) g8 #[.int .i64 0, .int .i64 0, .int .i64 0, .int .i64 0, .int .i64 0, .int .i64 0, .int .i64 0, .int .i64 0] 46 := blk_far (p := ⟨g7, 4, none⟩) m8 hn_8_7 _
  replace m7 : Blk (((((Wf.setCell ⟨g7, 0, none⟩ (.int .i64 Xi.f0)).setCell ⟨g7, 1, none⟩ (.int .i64 Xi.f1)).setCell ⟨g7, 2, none⟩ (.int .i64 Xi.f2)).setCell ⟨g7, 3, none⟩ (.int .i64 Xi.f3)).setCell ⟨g7, 4, none⟩ (.int .i64 Xi.f4.f0)) g7 #[.int .i64 Xi.f0, .int .i64 Xi.f1, .int .i64 Xi.f2, .int .i64 Xi.f3, .int .i64 Xi.f4.f0, .int .i64 0, .int .i64 0, .int .i64 0] 46 := blk_put m7 4 _ rfl
  replace mB : Below w.heap.size w (((((Wf.setCell ⟨g7, 0, none⟩ (.int .i64 Xi.f0)).setCell ⟨g7, 1, none⟩ (.int .i64 Xi.f1)).setCell ⟨g7, 2, none⟩ (.int .i64 Xi.f2)).setCell ⟨g7, 3, none⟩ (.int .i64 Xi.f3)).setCell ⟨g7, 4, none⟩ (.int .i64 Xi.f4.f0)) := mB.setCell (p := ⟨g7, 4, none⟩) hG7 _
  replace m3 : Blk ((((((Wf.setCell ⟨g7, 0, none⟩ (.int .i64 Xi.f0)).setCell ⟨g7, 1, none⟩ (.int .i64 Xi.f1)).setCell ⟨g7, 2, none⟩ (.int .i64 Xi.f2)).setCell ⟨g7, 3, none⟩ (.int .i64 Xi.f3)).setCell ⟨g7, 4, none⟩ (.int .i64 Xi.f4.f0)).setCell ⟨g7, 5, none⟩ (.int .i64 Xi.f4.f1)) g3 #[.int .i64 par, .int .i64 rate, .slice (some ad) xs.length c] 30 := blk_far (p := ⟨g7, 5, none⟩) m3 hn_3_7 _
  replace m8 : Blk ((((((Wf.setCell ⟨g7, 0, none⟩ (.int .i64 Xi.f0)).setCell ⟨g7, 1, none⟩ (.int .i64 Xi.f1)).setCell ⟨g7, 2, none⟩ (.int .i64 Xi.f2)).setCell ⟨g7, 3, none⟩ (.int .i64 Xi.f3)).setCell ⟨g7, 4, none⟩ (.int .i64 Xi.f4.f0)).setCell ⟨g7, 5, none⟩ (.int .i64 Xi.f4.f1)) g8 #[.int .i64 0, .int .i64 0, .int .i64 0, .int .i64 0, .int .i64 0, .int .i64 0, .int .i64 0, .int .i64 0] 46 := blk_far (p := ⟨g7, 5, none⟩) m8 hn_8_7 _
  replace m7 : Blk ((((((Wf.setCell ⟨g7, 0, none⟩ (.int .i64 Xi.f0)).setCell ⟨g7, 1, none⟩ (.int .i64 Xi.f1)).setCell ⟨g7, 2, none⟩ (.int .i64 Xi.f2)).setCell ⟨g7, 3, none⟩ (.int .i64 Xi.f3)).setCell ⟨g7, 4, none⟩ (.int .i64 Xi.f4.f0)).setCell ⟨g7, 5, none⟩ (.int .i64 Xi.f4.f1)) g7 #[.int .i64 Xi.f0, .int .i64 Xi.f1, .int .i64 Xi.f2, .int .i64 Xi.f3, .int .i64 Xi.f4.f0, .int .i64 Xi.f4.f1, .int .i64 0, .int .i64 0] 46 := blk_put m7 5 _ rfl
  replace mB : Below w.heap.size w ((((((Wf.setCell ⟨g7, 0, none⟩ (.int .i64 Xi.f0)).setCell ⟨g7, 1, none⟩ (.int .i64 Xi.f1)).setCell ⟨g7, 2, none⟩ (.int .i64 Xi.f2)).setCell ⟨g7, 3, none⟩ (.int .i64 Xi.f3)).setCell ⟨g7, 4, none⟩ (.int .i64 Xi.f4.f0)).setCell ⟨g7, 5, none⟩ (.int .i64 Xi.f4.f1)) := mB.setCell (p := ⟨g7, 5, none⟩) hG7 _
  replace m3 : Blk (((((((Wf.setCell ⟨g7, 0, none⟩ (.int .i64 Xi.f0)).setCell ⟨g7, 1, none⟩ (.int .i64 Xi.f1)).setCell ⟨g7, 2, none⟩ (.int .i64 Xi.f2)).setCell ⟨g7, 3, none⟩ (.int .i64 Xi.f3)).setCell ⟨g7, 4, none⟩ (.int .i64 Xi.f4.f0)).setCell ⟨g7, 5, none⟩ (.int .i64 Xi.f4.f1)).setCell ⟨g7, 6, none⟩ (.int .i64 Xi.f5.f0)) g3 #[.int .i64 par, .int .i64 rate, .slice (some ad) xs.length c] 30 := blk_far (p := ⟨g7, 6, none⟩) m3 hn_3_7 _
  replace m8 : Blk (((((((Wf.setCell ⟨g7, 0, none⟩ (.int .i64 Xi.f0)).setCell ⟨g7, 1, none⟩ (.int .i64 Xi.f1)).setCell ⟨g7, 2, none⟩ (.int .i64 Xi.f2)).setCell ⟨g7, 3, none⟩ (.int .i64 Xi.f3)).setCell ⟨g7, 4, none⟩ (.int .i64 Xi.f4.f0)).setCell ⟨g7, 5, none⟩ (.int .i64 Xi.f4.f1)).setCell ⟨g7, 6, none⟩ (.int .i64 Xi.f5.f0)) g8 #[.int .i64 0, .int .i64 0, .int .i64 0, .int .i64 0, .int .i64 0, .int .i64 0, .int .i64 0, .int .i64 0] 46 := blk_far (p := ⟨g7, 6, none⟩) m8 hn_8_7 _
  replace m7 : Blk (((((((Wf.setCell ⟨g7, 0, none⟩ (.int .i64 Xi.f0)).setCell ⟨g7, 1, none⟩ (.int .i64 Xi.f1)).setCell ⟨g7, 2, none⟩ (.int .i64 Xi.f2)).setCell ⟨g7, 3, none⟩ (.int .i64 Xi.f3)).setCell ⟨g7, 4, none⟩ (.int .i64 Xi.f4.f0)).setCell ⟨g7, 5, none⟩ (.int .i64 Xi.f4.f1)).setCell ⟨g7, 6, none⟩ (.int .i64 Xi.f5.f0)) g7 #[.int .i64 Xi.f0, .int .i64 Xi.f1, .int .i64 Xi.f2, .int .i64 Xi.f3, .int .i64 Xi.f4.f0, .int .i64 Xi.f4.f1, .int .i64 Xi.f5.f0, .int .i64 0] 46 := blk_put m7 6 _ rfl
  replace mB : Below w.heap.size w (((((((Wf.setCell ⟨g7, 0, none⟩ (.int .i64 Xi.f0)).setCell ⟨g7, 1, none⟩ (.int .i64 Xi.f1)).setCell ⟨g7, 2, none⟩ (.int .i64 Xi.f2)).setCell ⟨g7, 3, none⟩ (.int .i64 Xi.f3)).setCell ⟨g7, 4, none⟩ (.int .i64 Xi.f4.f0)).setCell ⟨g7, 5, none⟩ (.int .i64 Xi.f4.f1)).setCell ⟨g7, 6, none⟩ (.int .i64 Xi.f5.f0)) := mB.setCell (p := ⟨g7, 6, none⟩) hG7 _
  replace m3 : Blk ((((((((Wf.setCell ⟨g7, 0, none⟩ (.int .i64 Xi.f0)).setCell ⟨g7, 1, none⟩ (.int .i64 Xi.f1)).setCell ⟨g7, 2, none⟩ (.int .i64 Xi.f2)).setCell ⟨g7, 3, none⟩ (.int .i64 Xi.f3)).setCell ⟨g7, 4, none⟩ (.int .i64 Xi.f4.f0)).setCell ⟨g7, 5, none⟩ (.int .i64 Xi.f4.f1)).setCell ⟨g7, 6, none⟩ (.int .i64 Xi.f5.f0)).setCell ⟨g7, 7, none⟩ (.int .i64 Xi.f5.f1)) g3 #[.int .i64 par, .int .i64 rate, .slice (some ad) xs.length c] 30 := blk_far (p := ⟨g7, 7, none⟩) m3 hn_3_7 _
  replace m8 : Blk ((((((((Wf.setCell ⟨g7, 0, none⟩ (.int .i64 Xi.f0)).setCell ⟨g7, 1, none⟩ (.int .i64 Xi.f1)).setCell ⟨g7, 2, none⟩ (.int .i64 Xi.f2)).setCell ⟨g7, 3, none⟩ (.int .i64 Xi.f3)).setCell ⟨g7, 4, none⟩ (.int .i64 Xi.f4.f0)).setCell ⟨g7, 5, none⟩ (.int .i64 Xi.f4.f1)).setCell ⟨g7, 6, none⟩ (.int .i64 Xi.f5.f0)).setCell ⟨g7, 7, none⟩ (.int .i64 Xi.f5.f1)) g8 #[.int .i64 0, .int .i64 0, .int .i64 0, .int .i64 0, .int .i64 0, .int .i64 0, .int .i64 0, .int .i64 0] 46 := blk_far (p := ⟨g7, 7, none⟩) m8 hn_8_7 _
  replace m7 : Blk ((((((((Wf.setCell ⟨g7, 0, none⟩ (.int .i64 Xi.f0)).setCell ⟨g7, 1, none⟩ (.int .i64 Xi.f1)).setCell ⟨g7, 2, none⟩ (.int .i64 Xi.f2)).setCell ⟨g7, 3, none⟩ (.int .i64 Xi.f3)).setCell ⟨g7, 4, none⟩ (.int .i64 Xi.f4.f0)).setCell ⟨g7, 5, none⟩ (.int .i64 Xi.f4.f1)).setCell ⟨g7, 6, none⟩ (.int .i64 Xi.f5.f0)).setCell ⟨g7, 7, none⟩ (.int .i64 Xi.f5.f1)) g7 #[.int .i64 Xi.f0, .int .i64 Xi.f1, .int .i64 Xi.f2, .int .i64 Xi.f3, .int .i64 Xi.f4.f0, .int .i64 Xi.f4.f1, .int .i64 Xi.f5.f0, .int .i64 Xi.f5.f1] 46 := blk_put m7 7 _ rfl
  replace mB : Below w.heap.size w ((((((((Wf.setCell ⟨g7, 0, none⟩ (.int .i64 Xi.f0)).setCell ⟨g7, 1, none⟩ (.int .i64 Xi.f1)).setCell ⟨g7, 2, none⟩ (.int .i64 Xi.f2)).setCell ⟨g7, 3, none⟩ (.int .i64 Xi.f3)).setCell ⟨g7, 4, none⟩ (.int .i64 Xi.f4.f0)).setCell ⟨g7, 5, none⟩ (.int .i64 Xi.f4.f1)).setCell ⟨g7, 6, none⟩ (.int .i64 Xi.f5.f0)).setCell ⟨g7, 7, none⟩ (.int .i64 Xi.f5.f1)) := mB.setCell (p := ⟨g7, 7, none⟩) hG7 _
  generalize hE_ : ((((((((Wf.setCell ⟨g7, 0, none⟩ (.int .i64 Xi.f0)).setCell ⟨g7, 1, none⟩ (.int .i64 Xi.f1)).setCell ⟨g7, 2, none⟩ (.int .i64 Xi.f2)).setCell ⟨g7, 3, none⟩ (.int .i64 Xi.f3)).setCell ⟨g7, 4, none⟩ (.int .i64 Xi.f4.f0)).setCell ⟨g7, 5, none⟩ (.int .i64 Xi.f4.f1)).setCell ⟨g7, 6, none⟩ (.int .i64 Xi.f5.f0)).setCell ⟨g7, 7, none⟩ (.int .i64 Xi.f5.f1)) = Wz at m3 m7 m8 mB ⊢
  clear hE_
  refine hK.out _ _ ⟨((blk_cell m3 0).trans rfl), ((blk_cell m3 1).trans rfl), ((blk_cell m3 2).trans rfl), ((mB.cell (World.block_lt_of_cell? w _ hx0)).trans hx0), ((mB.cell (World.block_lt_of_cell? w _ hx1)).trans hx1), ((mB.cell (World.block_lt_of_cell? w _ hx2)).trans hx2), ((mB.cell (World.block_lt_of_cell? w _ hx3)).trans hx3), ((mB.cell (World.block_lt_of_cell? w _ hx4)).trans hx4), ((mB.cell (World.block_lt_of_cell? w _ hx5)).trans hx5), ((mB.cell (World.block_lt_of_cell? w _ hx6)).trans hx6), ((mB.cell (World.block_lt_of_cell? w _ hx7)).trans hx7), ((mB.cell (World.block_lt_of_cell? w _ hy0)).trans hy0), ((mB.cell (World.block_lt_of_cell? w _ hy1)).trans hy1), ((mB.cell (World.block_lt_of_cell? w _ hy2)).trans hy2), ((mB.cell (World.block_lt_of_cell? w _ hy3)).trans hy3), ((mB.cell (World.block_lt_of_cell? w _ hy4)).trans hy4), ((mB.cell (World.block_lt_of_cell? w _ hy5)).trans hy5), ((mB.cell (World.block_lt_of_cell? w _ hy6)).trans hy6), ((mB.cell (World.block_lt_of_cell? w _ hy7)).trans hy7)⟩ (fun hHeld => ?_)
  clear hK K
  refine one_ (i := 13) (N := none) #[true, true, true, true, true, true, true, true, true, true, true, true, true, true] rfl rfl (by kernel_rfl) (by decide) (fun K hK => ?_)
  have hf0_ := blk_frozen m8 0
  have hc0_ := (blk_cell m8 0).trans rfl
  have hf1_ := blk_frozen m8 1
  have hc1_ := (blk_cell m8 1).trans rfl
  have hf2_ := blk_frozen m8 2
  have hc2_ := (blk_cell m8 2).trans rfl
  have hf3_ := blk_frozen m8 3
  have hc3_ := (blk_cell m8 3).trans rfl
  have hf4_ := blk_frozen m8 4
  have hc4_ := (blk_cell m8 4).trans rfl
  have hf5_ := blk_frozen m8 5
  have hc5_ := (blk_cell m8 5).trans rfl
  have hf6_ := blk_frozen m8 6
  have hc6_ := (blk_cell m8 6).trans rfl
  have hf7_ := blk_frozen m8 7
  have hc7_ := (blk_cell m8 7).trans rfl
  refine skip_ (w1 := ?_) (by rfl) rfl ?_ ?_
  rotate_left
  · go_simp
    rfl
  clear hf0_ hc0_ hf1_ hc1_ hf2_ hc2_ hf3_ hc3_ hf4_ hc4_ hf5_ hc5_ hf6_ hc6_ hf7_ hc7_
  replace m3 : Blk (Wz.setCell ⟨g8, 0, none⟩ (.int .i64 Xk.f0)) g3 #[.int .i64 par, .int .i64 rate, .slice (some ad) xs.length c] 30 := blk_far (p := ⟨g8, 0, none⟩) m3 hn_3_8 _
  replace m7 : Blk (Wz.setCell ⟨g8, 0, none⟩ (.int .i64 Xk.f0)) g7 #[.int .i64 Xi.f0, .int .i64 Xi.f1, .int .i64 Xi.f2, .int .i64 Xi.f3, .int .i64 Xi.f4.f0, .int .i64 Xi.f4.f1, .int .i64 Xi.f5.f0, .int .i64 Xi.f5.f1] 46 := blk_far (p := ⟨g8, 0, none⟩) m7 hn_7_8 _
  replace m8 : Blk (Wz.setCell ⟨g8, 0, none⟩ (.int .i64 Xk.f0)) g8 #[.int .i64 Xk.f0, .int .i64 0, .int .i64 0, .int .i64 0, .int .i64 0, .int .i64 0, .int .i64 0, .int .i64 0] 46 := blk_put m8 0 _ rfl
  replace mB : Below w.heap.size w (Wz.setCell ⟨g8, 0, none⟩ (.int .i64 Xk.f0)) := mB.setCell (p := ⟨g8, 0, none⟩) hG8 _
  replace m3 : Blk ((Wz.setCell ⟨g8, 0, none⟩ (.int .i64 Xk.f0)).setCell ⟨g8, 1, none⟩ (.int .i64 Xk.f1)) g3 #[.int .i64 par, .int .i64 rate, .slice (some ad) xs.length c] 30 := blk_far (p := ⟨g8, 1, none⟩) m3 hn_3_8 _
  replace m7 : Blk ((Wz.setCell ⟨g8, 0, none⟩ (.int .i64 Xk.f0)).setCell ⟨g8, 1, none⟩ (.int .i64 Xk.f1)) g7 #[.int .i64 Xi.f0, .int .i64 Xi.f1, .int .i64 Xi.f2, .int .i64 Xi.f3, .int .i64 Xi.f4.f0, .int .i64 Xi.f4.f1, .int .i64 Xi.f5.f0, .int .i64 Xi.f5.f1] 46 := blk_far (p := ⟨g8, 1, none⟩) m7 hn_7_8 _
  replace m8 : Blk ((Wz.setCell ⟨g8, 0, none⟩ (.int .i64 Xk.f0)).setCell ⟨g8, 1, none⟩ (.int .i64 Xk.f1)) g8 #[.int .i64 Xk.f0, .int .i64 Xk.f1, .int .i64 0, .int .i64 0, .int .i64 0, .int .i64 0, .int .i64 0, .int .i64 0] 46 := blk_put m8 1 _ rfl
  replace mB : Below w.heap.size w ((Wz.setCell ⟨g8, 0, none⟩ (.int .i64 Xk.f0)).setCell ⟨g8, 1, none⟩ (.int .i64 Xk.f1)) := mB.setCell (p := ⟨g8, 1, none⟩) hG8 _
  replace m3 : Blk (((Wz.setCell ⟨g8, 0, none⟩ (.int .i64 Xk.f0)).setCell ⟨g8, 1, none⟩ (.int .i64 Xk.f1)).setCell ⟨g8, 2, none⟩ (.int .i64 Xk.f2)) g3 #[.int .i64 par, .int .i64 rate, .slice (some ad) xs.length c] 30 := blk_far (p := ⟨g8, 2, none⟩) m3 hn_3_8 _
  replace m7 : Blk (((Wz.setCell ⟨g8, 0, none⟩ (.int .i64 Xk.f0)).setCell ⟨g8, 1, none⟩ (.int .i64 Xk.f1)).setCell ⟨g8, 2, none⟩ (.int .i64 Xk.f2)) g7 #[.int .i64 Xi.f0, .int .i64 Xi.f1, .int .i64 Xi.f2, .int .i64 Xi.f3, .int .i64 Xi.f4.f0, .int .i64 Xi.f4.f1, .int .i64 Xi.f5.f0, .int .i64 Xi.f5.f1] 46 := blk_far (p := ⟨g8, 2, none⟩) m7 hn_7_8 _
  replace m8 : Blk (((Wz.setCell ⟨g8, 0, none⟩ (.int .i64 Xk.f0)).setCell ⟨g8, 1, none⟩ (.int .i64 Xk.f1)).setCell ⟨g8, 2, none⟩ (.int .i64 Xk.f2)) g8 #[.int .i64 Xk.f0, .int .i64 Xk.f1, .int .i64 Xk.f2, .int .i64 0, .int .i64 0, .int .i64 0, .int .i64 0, .int .i64 0] 46 := blk_put m8 2 _ rfl
  replace mB : Below w.heap.size w (((Wz.setCell ⟨g8, 0, none⟩ (.int .i64 Xk.f0)).setCell ⟨g8, 1, none⟩ (.int .i64 Xk.f1)).setCell ⟨g8, 2, none⟩ (.int .i64 Xk.f2)) := mB.setCell (p := ⟨g8, 2, none⟩) hG8 _
  replace m3 : Blk ((((Wz.setCell ⟨g8, 0, none⟩ (.int .i64 Xk.f0)).setCell ⟨g8, 1, none⟩ (.int .i64 Xk.f1)).setCell ⟨g8, 2, none⟩ (.int .i64 Xk.f2)).setCell ⟨g8, 3, none⟩ (.int .i64 Xk.f3)) g3 #[.int .i64 par, .int .i64 rate, .slice (some ad) xs.length c] 30 := blk_far (p := ⟨g8, 3, none⟩) m3 hn_3_8 _
  replace m7 : Blk ((((Wz.setCell ⟨g8, 0, none⟩ (.int .i64 Xk.f0)).setCell ⟨g8, 1, none⟩ (.int .i64 Xk.f1)).setCell ⟨g8, 2, none⟩ (.int .i64 Xk.f2)).setCell ⟨g8, 3, none⟩ (.int .i64 Xk.f3)) g7 #[.int .i64 Xi.f0, .int .i64 Xi.f1, .int .i64 Xi.f2, .int .i64 Xi.f3, .int .i64 Xi.f4.f0, .int .i64 Xi.f4.f1, .int .i64 Xi.f5.f0, .int .i64 Xi.f5.f1] 46 := blk_far (p := ⟨g8, 3, none⟩) m7 hn_7_8 _
  replace m8 : Blk ((((Wz.setCell ⟨g8, 0, none⟩ (.int .i64 Xk.f0)).setCell ⟨g8, 1, none⟩ (.int .i64 Xk.f1)).setCell ⟨g8, 2, none⟩ (.int .i64 Xk.f2)).setCell ⟨g8, 3, none⟩ (.int .i64 Xk.f3)) g8 #[.int .i64 Xk.f0, .int .i64 Xk.f1, .int .i64 Xk.f2, .int .i64 Xk.f3, .int .i64 0, .int .i64 0, .int .i64 0, .int .i64 0] 46 := blk_put m8 3 _ rfl
  replace mB : Below w.heap.size w ((((Wz.setCell ⟨g8, 0, none⟩ (.int .i64 Xk.f0)).setCell ⟨g8, 1, none⟩ (.int .i64 Xk.f1)).setCell ⟨g8, 2, none⟩ (.int .i64 Xk.f2)).setCell ⟨g8, 3, none⟩ (.int .i64 Xk.f3)) := mB.setCell (p := ⟨g8, 3, none⟩) hG8 _
  replace m3 : Blk (((((Wz.setCell ⟨g8, 0, none⟩ (.int .i64 Xk.f0)).setCell ⟨g8, 1, none⟩ (.int .i64 Xk.f1)).setCell ⟨g8, 2, none⟩ (.int .i64 Xk.f2)).setCell ⟨g8, 3, none⟩ (.int .i64 Xk.f3)).setCell ⟨g8, 4, none⟩ (.int .i64 Xk.f4.f0)) g3 #[.int .i64 par, .int .i64 rate, .slice (some ad) xs.length c] 30 := blk_far (p := ⟨g8, 4, none⟩) m3 hn_3_8 _
  replace m7 : Blk (((((Wz.setCell ⟨g8, 0, none⟩ (.int .i64 Xk.f0)).setCell ⟨g8, 1, none⟩ (.int .i64 Xk.f1)).setCell ⟨g8, 2, none⟩ (.int .i64 Xk.f2)).setCell ⟨g8, 3, none⟩ (.int .i64 Xk.f3)).setCell ⟨g8, 4, none⟩ (.int .i64 Xk.f4.f0)) g7 #[.int .i64 Xi.f0, .int .i64 Xi.f1, .int .i64 Xi.f2, .int .i64 Xi.f3, .int .i64 Xi.f4.f0, .int .i64 Xi.f4.f1, .int .i64 Xi.f5.f0, .int .i64 Xi.f5.f1] 46 := blk_far (p := ⟨g8, 4, none⟩) m7 hn_7_8 _
  replace m8 : Blk (((((Wz.setCell ⟨g8, 0, none⟩ (.int .i64 Xk.f0)).setCell ⟨g8, 1, none⟩ (.int .i64 Xk.f1)).setCell ⟨g8, 2, none⟩ (.int .i64 Xk.f2)).setCell ⟨g8, 3, none⟩ (.int .i64 Xk.f3)).setCell ⟨g8, 4, none⟩ (.int .i64 Xk.f4.f0)) g8 #[.int .i64 Xk.f0, .int .i64 Xk.f1, .int .i64 Xk.f2, .int .i64 Xk.f3, .int .i64 Xk.f4.f0, .int .i64 0, .int .i64 0, .int .i64 0] 46 := blk_put m8 4 _ rfl
  replace mB : Below w.heap.size w (((((Wz.setCell ⟨g8, 0, none⟩ (.int .i64 Xk.f0)).setCell ⟨g8, 1, none⟩ (.int .i64 Xk.f1)).setCell ⟨g8, 2, none⟩ (.int .i64 Xk.f2)).setCell ⟨g8, 3, none⟩ (.int .i64 Xk.f3)).setCell ⟨g8, 4, none⟩ (.int .i64 Xk.f4.f0)) := mB.setCell (p := ⟨g8, 4, none⟩) hG8 _
  replace m3 : Blk ((((((Wz.setCell ⟨g8, 0, none⟩ (.int .i64 Xk.f0)).setCell ⟨g8, 1, none⟩ (.int .i64 Xk.f1)).setCell ⟨g8, 2, none⟩ (.int .i64 Xk.f2)).setCell ⟨g8, 3, none⟩ (.int .i64 Xk.f3)).setCell ⟨g8, 4, none⟩ (.int .i64 Xk.f4.f0)).setCell ⟨g8, 5, none⟩ (.int .i64 Xk.f4.f1)) g3 #[.int .i64 par, .int .i64 rate, .slice (some ad) xs.length c] 30 := blk_far (p := ⟨g8, 5, none⟩) m3 hn_3_8 _
  replace m7 : Blk ((((((Wz.setCell ⟨g8, 0, none⟩ (.int .i64 Xk.f0)).setCell ⟨g8, 1, none⟩ (.int .i64 Xk.f1)).setCell ⟨g8, 2, none⟩ (.int .i64 Xk.f2)).setCell ⟨g8, 3, none⟩ (.int .i64 Xk.f3)).setCell ⟨g8, 4, none⟩ (.int .i64 Xk.f4.f0)).setCell ⟨g8, 5, none⟩ (.int .i64 Xk.f4.f1)) g7 #[.int .i64 Xi.f0, .int .i64 Xi.f1, .int .i64 Xi.f2, .int .i64 Xi.f3, .int .i64 Xi.f4.f0, .int .i64 Xi.f4.f1, .int .i64 Xi.f5.f0, .int .i64 Xi.f5.f1] 46 := blk_far (p := ⟨g8, 5, none⟩) m7 hn_7_8 _
  replace m8 : Blk ((((((Wz.setCell ⟨g8, 0, none⟩ (.int .i64 Xk.f0)).setCell ⟨g8, 1, none⟩ (.int .i64 Xk.f1)).setCell ⟨g8, 2, none⟩ (.int .i64 Xk.f2)).setCell ⟨g8, 3, none⟩ (.int .i64 Xk.f3)).setCell ⟨g8, 4, none⟩ (.int .i64 Xk.f4.f0)).setCell ⟨g8, 5, none⟩ (.int .i64 Xk.f4.f1)) g8 #[.int .i64 Xk.f0, .int .i64 Xk.f1, .int .i64 Xk.f2, .int .i64 Xk.f3, .int .i64 Xk.f4.f0, .int .i64 Xk.f4.f1, .int .i64 0, .int .i64 0] 46 := blk_put m8 5 _ rfl
  replace mB : Below w.heap.size w ((((((Wz.setCell ⟨g8, 0, none⟩ (.int .i64 Xk.f0)).setCell ⟨g8, 1, none⟩ (.int .i64 Xk.f1)).setCell ⟨g8, 2, none⟩ (.int .i64 Xk.f2)).setCell ⟨g8, 3, none⟩ (.int .i64 Xk.f3)).setCell ⟨g8, 4, none⟩ (.int .i64 Xk.f4.f0)).setCell ⟨g8, 5, none⟩ (.int .i64 Xk.f4.f1)) := mB.setCell (p := ⟨g8, 5, none⟩) hG8 _
  replace m3 : Blk (((((((Wz.setCell ⟨g8, 0, none⟩ (.int .i64 Xk.f0)).setCell ⟨g8, 1, none⟩ (.int .i64 Xk.f1)).setCell ⟨g8, 2, none⟩ (.int .i64 Xk.f2)).setCell ⟨g8, 3, none⟩ (.int .i64 Xk.f3)).setCell ⟨g8, 4, none⟩ (.int .i64 Xk.f4.f0)).setCell ⟨g8, 5, none⟩ (.int .i64 Xk.f4.f1)).setCell ⟨g8, 6, none⟩ (.int .i64 Xk.f5.f0)) g3 #[.int .i64 par, .int .i64 rate, .slice (some ad) xs.length c] 30 := blk_far (p := ⟨g8, 6, none⟩) m3 hn_3_8 _
  replace m7 : Blk (((((((Wz.setCell ⟨g8, 0, none⟩ (.int .i64 Xk.f0)).setCell ⟨g8, 1, none⟩ (.int .i64 Xk.f1)).setCell ⟨g8, 2, none⟩ (.int .i64 Xk.f2)).setCell ⟨g8, 3, none⟩ (.int .i64 Xk.f3)).setCell ⟨g8, 4, none⟩ (.int .i64 Xk.f4.f0)).setCell ⟨g8, 5, none⟩ (.int .i64 Xk.f4.f1)).setCell ⟨g8, 6, none⟩ (.int .i64 Xk.f5.f0)) g7 #[.int .i64 Xi.f0, .int .i64 Xi.f1, .int .i64 Xi.f2, .int .i64 Xi.f3, .int .i64 Xi.f4.f0, .int .i64 Xi.f4.f1, .int .i64 Xi.f5.f0, .int .i64 Xi.f5.f1] 46 := blk_far (p := ⟨g8, 6, none⟩) m7 hn_7_8 _
  replace m8 : Blk (((((((Wz.setCell ⟨g8, 0, none⟩ (.int .i64 Xk.f0)).setCell ⟨g8, 1, none⟩ (.int .i64 Xk.f1)).setCell ⟨g8, 2, none⟩ (.int .i64 Xk.f2)).setCell ⟨g8, 3, none⟩ (.int .i64 Xk.f3)).setCell ⟨g8, 4, none⟩ (.int .i64 Xk.f4.f0)).setCell ⟨g8, 5, none⟩ (.int .i64 Xk.f4.f1)).setCell ⟨g8, 6, none⟩ (.int .i64 Xk.f5.f0)) g8 #[.int .i64 Xk.f0, .int .i64 Xk.f1, .int .i64 Xk.f2, .int .i64 Xk.f3, .int .i64 Xk.f4.f0, .int .i64 Xk.f4.f1, .int .i64 Xk.f5.f0, .int .i64 0] 46 := blk_put m8 6 _ rfl
  replace mB : Below w.heap.size w (((((((Wz.setCell ⟨g8, 0, none⟩ (.int .i64 Xk.f0)).setCell ⟨g8, 1, none⟩ (.int .i64 Xk.f1)).setCell ⟨g8, 2, none⟩ (.int .i64 Xk.f2)).setCell ⟨g8, 3, none⟩ (.int .i64 Xk.f3)).setCell ⟨g8, 4, none⟩ (.int .i64 Xk.f4.f0)).setCell ⟨g8, 5, none⟩ (.int .i64 Xk.f4.f1)).setCell ⟨g8, 6, none⟩ (.int .i64 Xk.f5.f0)) := mB.setCell (p := ⟨g8, 6, none⟩) hG8 _
  replace m3 : Blk ((((((((Wz.setCell ⟨g8, 0, none⟩ (.int .i64 Xk.f0)).setCell ⟨g8, 1, none⟩ (.int .i64 Xk.f1)).setCell ⟨g8, 2, none⟩ (.int .i64 Xk.f2)).setCell ⟨g8, 3, none⟩ (.int .i64 Xk.f3)).setCell ⟨g8, 4, none⟩ (.int .i64 Xk.f4.f0)).setCell ⟨g8, 5, none⟩ (.int .i64 Xk.f4.f1)).setCell ⟨g8, 6, none⟩ (.int .i64 Xk.f5.f0)).setCell ⟨g8, 7, none⟩ (.int .i64 Xk.f5.f1)) g3 #[.int .i64 par, .int .i64 rate, .slice (some ad) xs.length c] 30 := blk_far (p := ⟨g8, 7, none⟩) m3 hn_3_8 _
  replace m7 : Blk ((((((((Wz.setCell ⟨g8, 0, none⟩ (.int .i64 Xk.f0)).setCell ⟨g8, 1, none⟩ (.int .i64 Xk.f1)).setCell ⟨g8, 2, none⟩ (.int .i64 Xk.f2)).setCell ⟨g8, 3, none⟩ (.int .i64 Xk.f3)).setCell ⟨g8, 4, none⟩ (.int .i64 Xk.f4.f0)).setCell ⟨g8, 5, none⟩ (.int .i64 Xk.f4.f1)).setCell ⟨g8, 6, none⟩ (.int .i64 Xk.f5.f0)).setCell ⟨g8, 7, none⟩ (.int .i64 Xk.f5.f1)) g7 #[.int .i64 Xi.f0, .int .i64 Xi.f1, .int .i64 Xi.f2, .int .i64 Xi.f3, .int .i64 Xi.f4.f0, .int .i64 Xi.f4.f1, .int .i64 Xi.f5.f0, .int .i64 Xi.f5.f1] 46 := blk_far (p := ⟨g8, 7, none⟩) m7 hn_7_8 _
  replace m8 : Blk ((((((((Wz.setCell ⟨g8, 0, none⟩ (.int .i64 Xk.f0)).setCell ⟨g8, 1, none⟩ (.int .i64 Xk.f1)).setCell ⟨g8, 2, none⟩ (.int .i64 Xk.f2)).setCell ⟨g8, 3, none⟩ (.int .i64 Xk.f3)).setCell ⟨g8, 4, none⟩ (.int .i64 Xk.f4.f0)).setCell ⟨g8, 5, none⟩ (.int .i64 Xk.f4.f1)).setCell ⟨g8, 6, none⟩ (.int .i64 Xk.f5.f0)).setCell ⟨g8, 7, none⟩ (.int .i64 Xk.f5.f1)) g8 #[.int .i64 Xk.f0, .int .i64 Xk.f1, .int .i64 Xk.f2, .int .i64 Xk.f3, .int .i64 Xk.f4.f0, .int .i64 Xk.f4.f1, .int .i64 Xk.f5.f0, .int .i64 Xk.f5.f1] 46 := blk_put m8 7 _ rfl
  replace mB : Below w.heap.size w ((((((((Wz.setCell ⟨g8, 0, none⟩ (.int .i64 Xk.f0)).setCell ⟨g8, 1, none⟩ (.int .i64 Xk.f1)).setCell ⟨g8, 2, none⟩ (.int .i64 Xk.f2)).setCell ⟨g8, 3, none⟩ (.int .i64 Xk.f3)).setCell ⟨g8, 4, none⟩ (.int .i64 Xk.f4.f0)).setCell ⟨g8, 5, none⟩ (.int .i64 Xk.f4.f1)).setCell ⟨g8, 6, none⟩ (.int .i64 Xk.f5.f0)).setCell ⟨g8, 7, none⟩ (.int .i64 Xk.f5.f1)) := mB.setCell (p := ⟨g8, 7, none⟩) hG8 _
  generalize hE_ : ((((((((Wz.setCell ⟨g8, 0, none⟩ (.int .i64 Xk.f0)).setCell ⟨g8, 1, none⟩ (.int .i64 Xk.f1)).setCell ⟨g8, 2, none⟩ (.int .i64 Xk.f2)).setCell ⟨g8, 3, none⟩ (.int .i64 Xk.f3)).setCell ⟨g8, 4, none⟩ (.int .i64 Xk.f4.f0)).setCell ⟨g8, 5, none⟩ (.int .i64 Xk.f4.f1)).setCell ⟨g8, 6, none⟩ (.int .i64 Xk.f5.f0)).setCell ⟨g8, 7, none⟩ (.int .i64 Xk.f5.f1)) = Wy at m3 m7 m8 mB ⊢
  clear hE_
  refine hK.out _ _ ⟨((blk_cell m3 0).trans rfl), ((blk_cell m3 1).trans rfl), ((blk_cell m3 2).trans rfl), ((mB.cell (World.block_lt_of_cell? w _ hx0)).trans hx0), ((mB.cell (World.block_lt_of_cell? w _ hx1)).trans hx1), ((mB.cell (World.block_lt_of_cell? w _ hx2)).trans hx2), ((mB.cell (World.block_lt_of_cell? w _ hx3)).trans hx3), ((mB.cell (World.block_lt_of_cell? w _ hx4)).trans hx4), ((mB.cell (World.block_lt_of_cell? w _ hx5)).trans hx5), ((mB.cell (World.block_lt_of_cell? w _ hx6)).trans hx6), ((mB.cell (World.block_lt_of_cell? w _ hx7)).trans hx7), ((mB.cell (World.block_lt_of_cell? w _ hy0)).trans hy0), ((mB.cell (World.block_lt_of_cell? w _ hy1)).trans hy1), ((mB.cell (World.block_lt_of_cell? w _ hy2)).trans hy2), ((mB.cell (World.block_lt_of_cell? w _ hy3)).trans hy3), ((mB.cell (World.block_lt_of_cell? w _ hy4)).trans hy4), ((mB.cell (World.block_lt_of_cell? w _ hy5)).trans hy5), ((mB.cell (World.block_lt_of_cell? w _ hy6)).trans hy6), ((mB.cell (World.block_lt_of_cell? w _ hy7)).trans hy7)⟩ (fun hHeld => ?_)
  clear hK K
  refine done_ (by kernel_rfl) ?_
  clear hx0 hx1 hx2 hx3 hx4 hx5 hx6 hx7 hy0 hy1 hy2 hy3 hy4 hy5 hy6 hy7 h0 h1 h2 h3
  go_wp2
  try clear hHeld
  generalize Wy = W4 at m3 m7 m8 mB ⊢
  replace m3 := blk_drew m3
  replace m7 := blk_drew m7
  replace m8 := blk_drew m8
  replace mB := below_drew1 mB
  refine start_ (n := 20) (S := fun w' => w'.cell? ⟨g3, 0, none⟩ = some (.int .i64 par) ∧ w'.cell? ⟨g3, 1, none⟩ = some (.int .i64 rate) ∧ w'.cell? ⟨g3, 2, none⟩ = some (.slice (some ad) xs.length c) ∧ w'.cell? ⟨g7, 0, none⟩ = some (.int .i64 Xi.f0) ∧ w'.cell? ⟨g7, 1, none⟩ = some (.int .i64 Xi.f1) ∧ w'.cell? ⟨g7, 2, none⟩ = some (.int .i64 Xi.f2) ∧ w'.cell? ⟨g7, 3, none⟩ = some (.int .i64 Xi.f3) ∧ w'.cell? ⟨g7, 4, none⟩ = some (.int .i64 Xi.f4.f0) ∧ w'.cell? ⟨g7, 5, none⟩ = some (.int .i64 Xi.f4.f1) ∧ w'.cell? ⟨g7, 6, none⟩ = some (.int .i64 Xi.f5.f0) ∧ w'.cell? ⟨g7, 7, none⟩ = some (.int .i64 Xi.f5.f1) ∧ w'.cell? ⟨g8, 0, none⟩ = some (.int .i64 Xk.f0) ∧ w'.cell? ⟨g8, 1, none⟩ = some (.int .i64 Xk.f1) ∧ w'.cell? ⟨g8, 2, none⟩ = some (.int .i64 Xk.f2) ∧ w'.cell? ⟨g8, 3, none⟩ = some (.int .i64 Xk.f3) ∧ w'.cell? ⟨g8, 4, none⟩ = some (.int .i64 Xk.f4.f0) ∧ w'.cell? ⟨g8, 5, none⟩ = some (.int .i64 Xk.f4.f1) ∧ w'.cell? ⟨g8, 6, none⟩ = some (.int .i64 Xk.f5.f0) ∧ w'.cell? ⟨g8, 7, none⟩ = some (.int .i64 Xk.f5.f1)) (ds := [19]) #[false, false, false, false, false, false, false, false, false, false, false, false, false, false, false, false, false, false, false, false] (by kernel_rfl) rfl rfl ⟨((blk_cell m3 0).trans rfl), ((blk_cell m3 1).trans rfl), ((blk_cell m3 2).trans rfl), ((blk_cell m7 0).trans rfl), ((blk_cell m7 1).trans rfl), ((blk_cell m7 2).trans rfl), ((blk_cell m7 3).trans rfl), ((blk_cell m7 4).trans rfl), ((blk_cell m7 5).trans rfl), ((blk_cell m7 6).trans rfl), ((blk_cell m7 7).trans rfl), ((blk_cell m8 0).trans rfl), ((blk_cell m8 1).trans rfl), ((blk_cell m8 2).trans rfl), ((blk_cell m8 3).trans rfl), ((blk_cell m8 4).trans rfl), ((blk_cell m8 5).trans rfl), ((blk_cell m8 6).trans rfl), ((blk_cell m8 7).trans rfl)⟩ (fun hHeld => ?_)
  generalize hWd : World.drew _ = Wx at *
  clear hWd
  refine pure_ (i := 1) (N := some 21) (v := ?_) (a' := ?_) #[false, true, false, false, false, false, false, false, false, false, false, false, false, false, false, false, false, false, false, false] rfl rfl (by kernel_rfl) (fun _ _ _ h => h) (Or.inl ⟨by rfl, ?_⟩) ?_ ?_
  rotate_left
  · intro w'
    go_simp
    with_reducible rfl
  rotate_left
  · simp only [Act.put, List.setIfInBounds_toArray, List.set_cons_zero, List.set_cons_succ, i64_w, i32_w]
    rfl
  refine pure_ (i := 4) (N := some 24) (v := ?_) (a' := ?_) #[false, true, false, false, true, false, false, false, false, false, false, false, false, false, false, false, false, false, false, false] rfl rfl (by kernel_rfl) (fun _ _ _ h => h) (Or.inl ⟨by rfl, ?_⟩) ?_ ?_
  rotate_left
  · intro w'
    go_simp
    with_reducible rfl
  rotate_left
  · simp only [Act.put, List.setIfInBounds_toArray, List.set_cons_zero, List.set_cons_succ, i64_w, i32_w]
    rfl
  refine pure_ (i := 6) (N := some 26) (v := ?_) (a' := ?_) #[false, true, false, false, true, false, true, false, false, false, false, false, false, false, false, false, false, false, false, false] rfl rfl (by kernel_rfl) (fun _ _ _ h => h) (Or.inl ⟨by rfl, ?_⟩) ?_ ?_
  rotate_left
  · intro w'
    go_simp
    with_reducible rfl
  rotate_left
  · simp only [Act.put, List.setIfInBounds_toArray, List.set_cons_zero, List.set_cons_succ, i64_w, i32_w]
    rfl
  refine pure_ (i := 8) (N := some 28) (v := ?_) (a' := ?_) #[false, true, false, false, true, false, true, false, true, false, false, false, false, false, false, false, false, false, false, false] rfl rfl (by kernel_rfl) (fun _ _ _ h => h) (Or.inl ⟨by rfl, ?_⟩) ?_ ?_
  rotate_left
  · intro w'
    go_simp
    with_reducible rfl
  rotate_left
  · simp only [Act.put, List.setIfInBounds_toArray, List.set_cons_zero, List.set_cons_succ, i64_w, i32_w]
    rfl
  refine pure_ (i := 14) (N := some 34) (v := ?_) (a' := ?_) #[false, true, false, false, true, false, true, false, true, false, false, false, false, false, true, false, false, false, false, false] rfl rfl (by kernel_rfl) (fun _ _ _ h => h) (Or.inl ⟨by rfl, ?_⟩) ?_ ?_
  rotate_left
  · intro w'
    go_simp
    with_reducible rfl
  rotate_left
  · simp only [Act.put, List.setIfInBounds_toArray, List.set_cons_zero, List.set_cons_succ, i64_w, i32_w]
    rfl
  refine take_ (i := 0) (N := some 20) (v := ?_) (a' := ?_) #[true, true, false, false, true, false, true, false, true, false, false, false, false, false, true, false, false, false, false, false] rfl rfl (by kernel_rfl) (fun _ _ _ h => h) (Or.inl ⟨by rfl, ?_⟩) hHeld ?_ ?_
  rotate_left
  · rintro w' ⟨s0, s1, s2, s3, s4, s5, s6, s7, s8, s9, s10, s11, s12, s13, s14, s15, s16, s17, s18⟩
    go_simp
    with_reducible rfl
  rotate_left
  · simp only [Act.put, List.setIfInBounds_toArray, List.set_cons_zero, List.set_cons_succ, i64_w, i32_w]
    rfl
  refine take_ (i := 2) (N := some 22) (v := ?_) (a' := ?_) #[true, true, true, false, true, false, true, false, true, false, false, false, false, false, true, false, false, false, false, false] rfl rfl (by kernel_rfl) (fun _ _ _ h => h) (Or.inl ⟨by rfl, ?_⟩) hHeld ?_ ?_
  rotate_left
  · rintro w' ⟨s0, s1, s2, s3, s4, s5, s6, s7, s8, s9, s10, s11, s12, s13, s14, s15, s16, s17, s18⟩
    go_simp
    with_reducible rfl
  rotate_left
  · simp only [Act.put, List.setIfInBounds_toArray, List.set_cons_zero, List.set_cons_succ, i64_w, i32_w]
    rfl
  refine take_ (i := 5) (N := some 25) (v := ?_) (a' := ?_) #[true, true, true, false, true, true, true, false, true, false, false, false, false, false, true, false, false, false, false, false] rfl rfl (by kernel_rfl) (fun _ _ _ h => h) (Or.inl ⟨by rfl, ?_⟩) hHeld ?_ ?_
  rotate_left
  · rintro w' ⟨s0, s1, s2, s3, s4, s5, s6, s7, s8, s9, s10, s11, s12, s13, s14, s15, s16, s17, s18⟩
    go_simp
    with_reducible rfl
  rotate_left
  · simp only [Act.put, List.setIfInBounds_toArray, List.set_cons_zero, List.set_cons_succ, i64_w, i32_w]
    rfl
  refine take_ (i := 7) (N := some 27) (v := ?_) (a' := ?_) #[true, true, true, false, true, true, true, true, true, false, false, false, false, false, true, false, false, false, false, false] rfl rfl (by kernel_rfl) (fun _ _ _ h => h) (Or.inl ⟨by rfl, ?_⟩) hHeld ?_ ?_
  rotate_left
  · rintro w' ⟨s0, s1, s2, s3, s4, s5, s6, s7, s8, s9, s10, s11, s12, s13, s14, s15, s16, s17, s18⟩
    go_simp
    with_reducible rfl
  rotate_left
  · simp only [Act.put, List.setIfInBounds_toArray, List.set_cons_zero, List.set_cons_succ, i64_w, i32_w]
    rfl
  refine take_ (i := 9) (N := some 29) (v := ?_) (a' := ?_) #[true, true, true, false, true, true, true, true, true, true, false, false, false, false, true, false, false, false, false, false] rfl rfl (by kernel_rfl) (fun _ _ _ h => h) (Or.inl ⟨by rfl, ?_⟩) hHeld ?_ ?_
  rotate_left
  · rintro w' ⟨s0, s1, s2, s3, s4, s5, s6, s7, s8, s9, s10, s11, s12, s13, s14, s15, s16, s17, s18⟩
    go_simp
    with_reducible rfl
  rotate_left
  · simp only [Act.put, List.setIfInBounds_toArray, List.set_cons_zero, List.set_cons_succ, i64_w, i32_w]
    rfl
  refine pure_ (i := 10) (N := some 30) (v := ?_) (a' := ?_) #[true, true, true, false, true, true, true, true, true, true, true, false, false, false, true, false, false, false, false, false] rfl rfl (by kernel_rfl) (fun _ _ _ h => h) (Or.inl ⟨by rfl, ?_⟩) ?_ ?_
  rotate_left
  · intro w'
    go_simp
    with_reducible rfl
  rotate_left
  · simp only [Act.put, List.setIfInBounds_toArray, List.set_cons_zero, List.set_cons_succ, i64_w, i32_w]
    rfl
  refine take_ (i := 13) (N := some 33) (v := ?_) (a' := ?_) #[true, true, true, false, true, true, true, true, true, true, true, false, false, true, true, false, false, false, false, false] rfl rfl (by kernel_rfl) (fun _ _ _ h => h) (Or.inl ⟨by rfl, ?_⟩) hHeld ?_ ?_
  rotate_left
  · rintro w' ⟨s0, s1, s2, s3, s4, s5, s6, s7, s8, s9, s10, s11, s12, s13, s14, s15, s16, s17, s18⟩
    go_simp
    with_reducible rfl
  rotate_left
  · simp only [Act.put, List.setIfInBounds_toArray, List.set_cons_zero, List.set_cons_succ, i64_w, i32_w]
    rfl
  refine take_ (i := 15) (N := some 35) (v := ?_) (a' := ?_) #[true, true, true, false, true, true, true, true, true, true, true, false, false, true, true, true, false, false, false, false] rfl rfl (by kernel_rfl) (fun _ _ _ h => h) (Or.inl ⟨by rfl, ?_⟩) hHeld ?_ ?_
  rotate_left
  · rintro w' ⟨s0, s1, s2, s3, s4, s5, s6, s7, s8, s9, s10, s11, s12, s13, s14, s15, s16, s17, s18⟩
    go_simp
    with_reducible rfl
  rotate_left
  · simp only [Act.put, List.setIfInBounds_toArray, List.set_cons_zero, List.set_cons_succ, i64_w, i32_w]
    rfl
  refine join_ (σ := Nat) 1 #[true, true, true, true, true, true, true, true, true, true, true, true, true, true, true, true, true, true, true, false] (fun s => [(23, .agg #[.int .i64 (offR Xi rate).1, .int .i64 (offR Xi rate).2]), (31, .int .i64 (growR rate (wrap64 (Xi.f3 - Xk.f3)))), (32, .agg #[.int .i64 (wrap64 ((offR Xi rate).1 - (growR rate (wrap64 (Xi.f3 - Xk.f3))))), .int .i64 (wrap64 ((offR Xi rate).2 + (growR rate (wrap64 (Xi.f3 - Xk.f3)))))]), (36, .agg #[.int .i64 (offR Xk rate).1, .int .i64 (offR Xk rate).2]), (37, .agg #[.int .i64 (mx (wrap64 ((offR Xi rate).1 - (growR rate (wrap64 (Xi.f3 - Xk.f3))))) (offR Xk rate).1), .int .i64 (mn (wrap64 ((offR Xi rate).2 + (growR rate (wrap64 (Xi.f3 - Xk.f3))))) (offR Xk rate).2)]), (9, .pointer (some ⟨s, 0, none⟩))]) (fun s w' => Blk w' g3 #[.int .i64 par, .int .i64 rate, .slice (some ad) xs.length c] 30 ∧ Blk w' g7 #[.int .i64 Xi.f0, .int .i64 Xi.f1, .int .i64 Xi.f2, .int .i64 Xi.f3, .int .i64 Xi.f4.f0, .int .i64 Xi.f4.f1, .int .i64 Xi.f5.f0, .int .i64 Xi.f5.f1] 46 ∧ Blk w' g8 #[.int .i64 Xk.f0, .int .i64 Xk.f1, .int .i64 Xk.f2, .int .i64 Xk.f3, .int .i64 Xk.f4.f0, .int .i64 Xk.f4.f1, .int .i64 Xk.f5.f0, .int .i64 Xk.f5.f1] 46 ∧ Blk w' (s) #[.int .i64 0, .int .i64 0] 35 ∧ Below w.heap.size w w' ∧ w.heap.size ≤ s ∧ g3 ≠ s ∧ g7 ≠ s ∧ g8 ≠ s) ?_ ?_
  rotate_left
  · intro hCont
    refine two_ (i := 3) (j := 18) (Ni := some 23) (Nj := some 9) #[true, true, true, true, true, true, true, true, true, true, true, false, false, true, true, true, false, false, false, false] #[true, true, true, false, true, true, true, true, true, true, true, false, false, true, true, true, false, false, true, false] rfl rfl rfl rfl (by kernel_rfl) (by decide) (by decide) (fun K hK => ?_) (fun K hK => ?_)
    · skip
      have hcon_ := offR_any Xi rate Wx
      refine goes_ Try.func67 (by kernel_rfl) rfl #[.agg #[.int .i64 Xi.f0, .int .i64 Xi.f1, .int .i64 Xi.f2, .int .i64 Xi.f3, .int .i64 Xi.f4.f0, .int .i64 Xi.f4.f1, .int .i64 Xi.f5.f0, .int .i64 Xi.f5.f1], .int .i64 rate] (by rfl) rfl rfl (by simp only [List.map_toArray, List.map_cons, List.map_nil]; rfl) ?_
      with_reducible refine (hcon_).mono ?_
      rintro e w3 ⟨rfl, hb⟩
      refine ⟨_, rfl, ?_⟩
      clear hcon_
      replace m3 := blk_below m3 hb
      replace m7 := blk_below m7 hb
      replace m8 := blk_below m8 hb
      replace mB := below_step mB hb
      clear hb
      refine hK.out _ _ ⟨((blk_cell m3 0).trans rfl), ((blk_cell m3 1).trans rfl), ((blk_cell m3 2).trans rfl), ((blk_cell m7 0).trans rfl), ((blk_cell m7 1).trans rfl), ((blk_cell m7 2).trans rfl), ((blk_cell m7 3).trans rfl), ((blk_cell m7 4).trans rfl), ((blk_cell m7 5).trans rfl), ((blk_cell m7 6).trans rfl), ((blk_cell m7 7).trans rfl), ((blk_cell m8 0).trans rfl), ((blk_cell m8 1).trans rfl), ((blk_cell m8 2).trans rfl), ((blk_cell m8 3).trans rfl), ((blk_cell m8 4).trans rfl), ((blk_cell m8 5).trans rfl), ((blk_cell m8 6).trans rfl), ((blk_cell m8 7).trans rfl)⟩ (fun hHeld => ?_)
      clear hK K
      refine norm_ (a' := ?_) ?_ ?_
      rotate_left
      · show Act.put _ (some 23) _ = _
        simp only [Act.put, List.setIfInBounds_toArray, List.set_cons_zero, List.set_cons_succ, i64_w, i32_w]
        rfl
      refine two_ (i := 11) (j := 18) (Ni := some 31) (Nj := some 9) #[true, true, true, true, true, true, true, true, true, true, true, true, false, true, true, true, false, false, false, false] #[true, true, true, true, true, true, true, true, true, true, true, false, false, true, true, true, false, false, true, false] rfl rfl rfl rfl (by kernel_rfl) (by decide) (by decide) (fun K hK => ?_) (fun K hK => ?_)
      · skip
        have hcon_ := growR_any rate (wrap64 (Xi.f3 - Xk.f3)) w3
        refine goes_ Try.func24 (by kernel_rfl) rfl #[.int .i64 rate, .int .i64 (wrap64 (Xi.f3 - Xk.f3))] (by rfl) rfl rfl (by simp only [List.map_toArray, List.map_cons, List.map_nil]; rfl) ?_
        with_reducible refine (hcon_).mono ?_
        rintro e w11 ⟨rfl, hb⟩
        refine ⟨_, rfl, ?_⟩
        clear hcon_
        replace m3 := blk_below m3 hb
        replace m7 := blk_below m7 hb
        replace m8 := blk_below m8 hb
        replace mB := below_step mB hb
        clear hb
        refine hK.out _ _ ⟨((blk_cell m3 0).trans rfl), ((blk_cell m3 1).trans rfl), ((blk_cell m3 2).trans rfl), ((blk_cell m7 0).trans rfl), ((blk_cell m7 1).trans rfl), ((blk_cell m7 2).trans rfl), ((blk_cell m7 3).trans rfl), ((blk_cell m7 4).trans rfl), ((blk_cell m7 5).trans rfl), ((blk_cell m7 6).trans rfl), ((blk_cell m7 7).trans rfl), ((blk_cell m8 0).trans rfl), ((blk_cell m8 1).trans rfl), ((blk_cell m8 2).trans rfl), ((blk_cell m8 3).trans rfl), ((blk_cell m8 4).trans rfl), ((blk_cell m8 5).trans rfl), ((blk_cell m8 6).trans rfl), ((blk_cell m8 7).trans rfl)⟩ (fun hHeld => ?_)
        clear hK K
        refine norm_ (a' := ?_) ?_ ?_
        rotate_left
        · show Act.put _ (some 31) _ = _
          simp only [Act.put, List.setIfInBounds_toArray, List.set_cons_zero, List.set_cons_succ, i64_w, i32_w]
          rfl
        refine two_ (i := 12) (j := 18) (Ni := some 32) (Nj := some 9) #[true, true, true, true, true, true, true, true, true, true, true, true, true, true, true, true, false, false, false, false] #[true, true, true, true, true, true, true, true, true, true, true, true, false, true, true, true, false, false, true, false] rfl rfl rfl rfl (by kernel_rfl) (by decide) (by decide) (fun K hK => ?_) (fun K hK => ?_)
        · skip
          have hcon_ := grownR_any (offR Xi rate).1 (offR Xi rate).2 (growR rate (wrap64 (Xi.f3 - Xk.f3))) w11
          refine goes_ Try.func95 (by kernel_rfl) rfl #[.agg #[.int .i64 (offR Xi rate).1, .int .i64 (offR Xi rate).2], .int .i64 (growR rate (wrap64 (Xi.f3 - Xk.f3)))] (by rfl) rfl rfl (by simp only [List.map_toArray, List.map_cons, List.map_nil]; rfl) ?_
          with_reducible refine (hcon_).mono ?_
          rintro e w12 ⟨rfl, hb⟩
          refine ⟨_, rfl, ?_⟩
          clear hcon_
          replace m3 := blk_below m3 hb
          replace m7 := blk_below m7 hb
          replace m8 := blk_below m8 hb
          replace mB := below_step mB hb
          clear hb
          refine hK.out _ _ ⟨((blk_cell m3 0).trans rfl), ((blk_cell m3 1).trans rfl), ((blk_cell m3 2).trans rfl), ((blk_cell m7 0).trans rfl), ((blk_cell m7 1).trans rfl), ((blk_cell m7 2).trans rfl), ((blk_cell m7 3).trans rfl), ((blk_cell m7 4).trans rfl), ((blk_cell m7 5).trans rfl), ((blk_cell m7 6).trans rfl), ((blk_cell m7 7).trans rfl), ((blk_cell m8 0).trans rfl), ((blk_cell m8 1).trans rfl), ((blk_cell m8 2).trans rfl), ((blk_cell m8 3).trans rfl), ((blk_cell m8 4).trans rfl), ((blk_cell m8 5).trans rfl), ((blk_cell m8 6).trans rfl), ((blk_cell m8 7).trans rfl)⟩ (fun hHeld => ?_)
          clear hK K
          refine norm_ (a' := ?_) ?_ ?_
          rotate_left
          · show Act.put _ (some 32) _ = _
            simp only [Act.put, List.setIfInBounds_toArray, List.set_cons_zero, List.set_cons_succ, i64_w, i32_w]
            rfl
          refine two_ (i := 16) (j := 18) (Ni := some 36) (Nj := some 9) #[true, true, true, true, true, true, true, true, true, true, true, true, true, true, true, true, true, false, false, false] #[true, true, true, true, true, true, true, true, true, true, true, true, true, true, true, true, false, false, true, false] rfl rfl rfl rfl (by kernel_rfl) (by decide) (by decide) (fun K hK => ?_) (fun K hK => ?_)
          · skip
            have hcon_ := offR_any Xk rate w12
            refine goes_ Try.func67 (by kernel_rfl) rfl #[.agg #[.int .i64 Xk.f0, .int .i64 Xk.f1, .int .i64 Xk.f2, .int .i64 Xk.f3, .int .i64 Xk.f4.f0, .int .i64 Xk.f4.f1, .int .i64 Xk.f5.f0, .int .i64 Xk.f5.f1], .int .i64 rate] (by rfl) rfl rfl (by simp only [List.map_toArray, List.map_cons, List.map_nil]; rfl) ?_
            with_reducible refine (hcon_).mono ?_
            rintro e w16 ⟨rfl, hb⟩
            refine ⟨_, rfl, ?_⟩
            clear hcon_
            replace m3 := blk_below m3 hb
            replace m7 := blk_below m7 hb
            replace m8 := blk_below m8 hb
            replace mB := below_step mB hb
            clear hb
            refine hK.out _ _ ⟨((blk_cell m3 0).trans rfl), ((blk_cell m3 1).trans rfl), ((blk_cell m3 2).trans rfl), ((blk_cell m7 0).trans rfl), ((blk_cell m7 1).trans rfl), ((blk_cell m7 2).trans rfl), ((blk_cell m7 3).trans rfl), ((blk_cell m7 4).trans rfl), ((blk_cell m7 5).trans rfl), ((blk_cell m7 6).trans rfl), ((blk_cell m7 7).trans rfl), ((blk_cell m8 0).trans rfl), ((blk_cell m8 1).trans rfl), ((blk_cell m8 2).trans rfl), ((blk_cell m8 3).trans rfl), ((blk_cell m8 4).trans rfl), ((blk_cell m8 5).trans rfl), ((blk_cell m8 6).trans rfl), ((blk_cell m8 7).trans rfl)⟩ (fun hHeld => ?_)
            clear hK K
            refine norm_ (a' := ?_) ?_ ?_
            rotate_left
            · show Act.put _ (some 36) _ = _
              simp only [Act.put, List.setIfInBounds_toArray, List.set_cons_zero, List.set_cons_succ, i64_w, i32_w]
              rfl
            refine two_ (i := 17) (j := 18) (Ni := some 37) (Nj := some 9) #[true, true, true, true, true, true, true, true, true, true, true, true, true, true, true, true, true, true, false, false] #[true, true, true, true, true, true, true, true, true, true, true, true, true, true, true, true, true, false, true, false] rfl rfl rfl rfl (by kernel_rfl) (by decide) (by decide) (fun K hK => ?_) (fun K hK => ?_)
            · skip
              have hcon_ := meetR_any (wrap64 ((offR Xi rate).1 - (growR rate (wrap64 (Xi.f3 - Xk.f3))))) (wrap64 ((offR Xi rate).2 + (growR rate (wrap64 (Xi.f3 - Xk.f3))))) (offR Xk rate).1 (offR Xk rate).2 w16
              refine goes_ Try.func86 (by kernel_rfl) rfl #[.agg #[.int .i64 (wrap64 ((offR Xi rate).1 - (growR rate (wrap64 (Xi.f3 - Xk.f3))))), .int .i64 (wrap64 ((offR Xi rate).2 + (growR rate (wrap64 (Xi.f3 - Xk.f3)))))], .agg #[.int .i64 (offR Xk rate).1, .int .i64 (offR Xk rate).2]] (by rfl) rfl rfl (by simp only [List.map_toArray, List.map_cons, List.map_nil]; rfl) ?_
              with_reducible refine (hcon_).mono ?_
              rintro e w17 ⟨rfl, hb⟩
              refine ⟨_, rfl, ?_⟩
              clear hcon_
              replace m3 := blk_below m3 hb
              replace m7 := blk_below m7 hb
              replace m8 := blk_below m8 hb
              replace mB := below_step mB hb
              clear hb
              refine hK.out _ _ ⟨((blk_cell m3 0).trans rfl), ((blk_cell m3 1).trans rfl), ((blk_cell m3 2).trans rfl), ((blk_cell m7 0).trans rfl), ((blk_cell m7 1).trans rfl), ((blk_cell m7 2).trans rfl), ((blk_cell m7 3).trans rfl), ((blk_cell m7 4).trans rfl), ((blk_cell m7 5).trans rfl), ((blk_cell m7 6).trans rfl), ((blk_cell m7 7).trans rfl), ((blk_cell m8 0).trans rfl), ((blk_cell m8 1).trans rfl), ((blk_cell m8 2).trans rfl), ((blk_cell m8 3).trans rfl), ((blk_cell m8 4).trans rfl), ((blk_cell m8 5).trans rfl), ((blk_cell m8 6).trans rfl), ((blk_cell m8 7).trans rfl)⟩ (fun hHeld => ?_)
              clear hK K
              refine norm_ (a' := ?_) ?_ ?_
              rotate_left
              · show Act.put _ (some 37) _ = _
                simp only [Act.put, List.setIfInBounds_toArray, List.set_cons_zero, List.set_cons_succ, i64_w, i32_w]
                rfl
              refine one_ (i := 18) (N := some 9) #[true, true, true, true, true, true, true, true, true, true, true, true, true, true, true, true, true, true, true, false] rfl rfl (by kernel_rfl) (by decide) (fun K hK => ?_)
              have hn_3_9 : g3 ≠ w17.heap.size := by have h_ := blk_lt m3; omega
              have hn_7_9 : g7 ≠ w17.heap.size := by have h_ := blk_lt m7; omega
              have hn_8_9 : g8 ≠ w17.heap.size := by have h_ := blk_lt m8; omega
              have hG9 : w.heap.size ≤ w17.heap.size := by have h_ := mB.size; omega
              replace m3 := blk_alloc m3 (.cells #[.int .i64 0, .int .i64 0] 35)
              replace m7 := blk_alloc m7 (.cells #[.int .i64 0, .int .i64 0] 35)
              replace m8 := blk_alloc m8 (.cells #[.int .i64 0, .int .i64 0] 35)
              have m9 : Blk (w17.alloc (.cells #[.int .i64 0, .int .i64 0] 35)) (w17.heap.size) #[.int .i64 0, .int .i64 0] 35 := by have h_ := blk_new w17 (.cells #[.int .i64 0, .int .i64 0] 35); first | exact h_ | (simp only [World.size_alloc] at h_; exact h_)
              replace mB := below_alloc mB (.cells #[.int .i64 0, .int .i64 0] 35)
              refine value_ (w1 := ?_) (v := ?_) (by rfl) rfl ?_ ?_
              rotate_left 2
              · go_simp
                constructor
                · rfl
                · rfl
              refine hK.out _ _ ⟨((blk_cell m3 0).trans rfl), ((blk_cell m3 1).trans rfl), ((blk_cell m3 2).trans rfl), ((blk_cell m7 0).trans rfl), ((blk_cell m7 1).trans rfl), ((blk_cell m7 2).trans rfl), ((blk_cell m7 3).trans rfl), ((blk_cell m7 4).trans rfl), ((blk_cell m7 5).trans rfl), ((blk_cell m7 6).trans rfl), ((blk_cell m7 7).trans rfl), ((blk_cell m8 0).trans rfl), ((blk_cell m8 1).trans rfl), ((blk_cell m8 2).trans rfl), ((blk_cell m8 3).trans rfl), ((blk_cell m8 4).trans rfl), ((blk_cell m8 5).trans rfl), ((blk_cell m8 6).trans rfl), ((blk_cell m8 7).trans rfl)⟩ (fun hHeld => ?_)
              clear hK K
              refine norm_ (a' := ?_) ?_ ?_
              rotate_left
              · show Act.put _ (some 9) _ = _
                simp only [Act.put, List.setIfInBounds_toArray, List.set_cons_zero, List.set_cons_succ, i64_w, i32_w]
                rfl
              exact norm_ (by first | (simp only [putAll, Act.put, List.setIfInBounds_toArray, List.set_cons_zero, List.set_cons_succ]; done) | (simp only [putAll, Act.put, List.setIfInBounds_toArray, List.set_cons_zero, List.set_cons_succ]; rfl)) (hCont (w17.heap.size) _ ⟨m3, m7, m8, m9, mB, hG9, hn_3_9, hn_7_9, hn_8_9⟩)
            · skip
              have hn_3_9 : g3 ≠ w16.heap.size := by have h_ := blk_lt m3; omega
              have hn_7_9 : g7 ≠ w16.heap.size := by have h_ := blk_lt m7; omega
              have hn_8_9 : g8 ≠ w16.heap.size := by have h_ := blk_lt m8; omega
              have hG9 : w.heap.size ≤ w16.heap.size := by have h_ := mB.size; omega
              replace m3 := blk_alloc m3 (.cells #[.int .i64 0, .int .i64 0] 35)
              replace m7 := blk_alloc m7 (.cells #[.int .i64 0, .int .i64 0] 35)
              replace m8 := blk_alloc m8 (.cells #[.int .i64 0, .int .i64 0] 35)
              have m9 : Blk (w16.alloc (.cells #[.int .i64 0, .int .i64 0] 35)) (w16.heap.size) #[.int .i64 0, .int .i64 0] 35 := by have h_ := blk_new w16 (.cells #[.int .i64 0, .int .i64 0] 35); first | exact h_ | (simp only [World.size_alloc] at h_; exact h_)
              replace mB := below_alloc mB (.cells #[.int .i64 0, .int .i64 0] 35)
              refine value_ (w1 := ?_) (v := ?_) (by rfl) rfl ?_ ?_
              rotate_left 2
              · go_simp
                constructor
                · rfl
                · rfl
              refine hK.out _ _ ⟨((blk_cell m3 0).trans rfl), ((blk_cell m3 1).trans rfl), ((blk_cell m3 2).trans rfl), ((blk_cell m7 0).trans rfl), ((blk_cell m7 1).trans rfl), ((blk_cell m7 2).trans rfl), ((blk_cell m7 3).trans rfl), ((blk_cell m7 4).trans rfl), ((blk_cell m7 5).trans rfl), ((blk_cell m7 6).trans rfl), ((blk_cell m7 7).trans rfl), ((blk_cell m8 0).trans rfl), ((blk_cell m8 1).trans rfl), ((blk_cell m8 2).trans rfl), ((blk_cell m8 3).trans rfl), ((blk_cell m8 4).trans rfl), ((blk_cell m8 5).trans rfl), ((blk_cell m8 6).trans rfl), ((blk_cell m8 7).trans rfl)⟩ (fun hHeld => ?_)
              clear hK K
              refine norm_ (a' := ?_) ?_ ?_
              rotate_left
              · show Act.put _ (some 9) _ = _
                simp only [Act.put, List.setIfInBounds_toArray, List.set_cons_zero, List.set_cons_succ, i64_w, i32_w]
                rfl
              refine one_ (i := 17) (N := some 37) #[true, true, true, true, true, true, true, true, true, true, true, true, true, true, true, true, true, true, true, false] rfl rfl (by kernel_rfl) (by decide) (fun K hK => ?_)
              have hcon_ := meetR_any (wrap64 ((offR Xi rate).1 - (growR rate (wrap64 (Xi.f3 - Xk.f3))))) (wrap64 ((offR Xi rate).2 + (growR rate (wrap64 (Xi.f3 - Xk.f3))))) (offR Xk rate).1 (offR Xk rate).2 (w16.alloc (.cells #[.int .i64 0, .int .i64 0] 35))
              refine goes_ Try.func86 (by kernel_rfl) rfl #[.agg #[.int .i64 (wrap64 ((offR Xi rate).1 - (growR rate (wrap64 (Xi.f3 - Xk.f3))))), .int .i64 (wrap64 ((offR Xi rate).2 + (growR rate (wrap64 (Xi.f3 - Xk.f3)))))], .agg #[.int .i64 (offR Xk rate).1, .int .i64 (offR Xk rate).2]] (by rfl) rfl rfl (by simp only [List.map_toArray, List.map_cons, List.map_nil]; rfl) ?_
              with_reducible refine (hcon_).mono ?_
              rintro e w17 ⟨rfl, hb⟩
              refine ⟨_, rfl, ?_⟩
              clear hcon_
              replace m3 := blk_below m3 hb
              replace m7 := blk_below m7 hb
              replace m8 := blk_below m8 hb
              replace m9 := blk_below m9 hb
              replace mB := below_step mB hb
              clear hb
              refine hK.out _ _ ⟨((blk_cell m3 0).trans rfl), ((blk_cell m3 1).trans rfl), ((blk_cell m3 2).trans rfl), ((blk_cell m7 0).trans rfl), ((blk_cell m7 1).trans rfl), ((blk_cell m7 2).trans rfl), ((blk_cell m7 3).trans rfl), ((blk_cell m7 4).trans rfl), ((blk_cell m7 5).trans rfl), ((blk_cell m7 6).trans rfl), ((blk_cell m7 7).trans rfl), ((blk_cell m8 0).trans rfl), ((blk_cell m8 1).trans rfl), ((blk_cell m8 2).trans rfl), ((blk_cell m8 3).trans rfl), ((blk_cell m8 4).trans rfl), ((blk_cell m8 5).trans rfl), ((blk_cell m8 6).trans rfl), ((blk_cell m8 7).trans rfl)⟩ (fun hHeld => ?_)
              clear hK K
              refine norm_ (a' := ?_) ?_ ?_
              rotate_left
              · show Act.put _ (some 37) _ = _
                simp only [Act.put, List.setIfInBounds_toArray, List.set_cons_zero, List.set_cons_succ, i64_w, i32_w]
                rfl
              exact norm_ (by first | (simp only [putAll, Act.put, List.setIfInBounds_toArray, List.set_cons_zero, List.set_cons_succ]; done) | (simp only [putAll, Act.put, List.setIfInBounds_toArray, List.set_cons_zero, List.set_cons_succ]; rfl)) (hCont (w16.heap.size) _ ⟨m3, m7, m8, m9, mB, hG9, hn_3_9, hn_7_9, hn_8_9⟩)
          · skip
            have hn_3_9 : g3 ≠ w12.heap.size := by have h_ := blk_lt m3; omega
            have hn_7_9 : g7 ≠ w12.heap.size := by have h_ := blk_lt m7; omega
            have hn_8_9 : g8 ≠ w12.heap.size := by have h_ := blk_lt m8; omega
            have hG9 : w.heap.size ≤ w12.heap.size := by have h_ := mB.size; omega
            replace m3 := blk_alloc m3 (.cells #[.int .i64 0, .int .i64 0] 35)
            replace m7 := blk_alloc m7 (.cells #[.int .i64 0, .int .i64 0] 35)
            replace m8 := blk_alloc m8 (.cells #[.int .i64 0, .int .i64 0] 35)
            have m9 : Blk (w12.alloc (.cells #[.int .i64 0, .int .i64 0] 35)) (w12.heap.size) #[.int .i64 0, .int .i64 0] 35 := by have h_ := blk_new w12 (.cells #[.int .i64 0, .int .i64 0] 35); first | exact h_ | (simp only [World.size_alloc] at h_; exact h_)
            replace mB := below_alloc mB (.cells #[.int .i64 0, .int .i64 0] 35)
            refine value_ (w1 := ?_) (v := ?_) (by rfl) rfl ?_ ?_
            rotate_left 2
            · go_simp
              constructor
              · rfl
              · rfl
            refine hK.out _ _ ⟨((blk_cell m3 0).trans rfl), ((blk_cell m3 1).trans rfl), ((blk_cell m3 2).trans rfl), ((blk_cell m7 0).trans rfl), ((blk_cell m7 1).trans rfl), ((blk_cell m7 2).trans rfl), ((blk_cell m7 3).trans rfl), ((blk_cell m7 4).trans rfl), ((blk_cell m7 5).trans rfl), ((blk_cell m7 6).trans rfl), ((blk_cell m7 7).trans rfl), ((blk_cell m8 0).trans rfl), ((blk_cell m8 1).trans rfl), ((blk_cell m8 2).trans rfl), ((blk_cell m8 3).trans rfl), ((blk_cell m8 4).trans rfl), ((blk_cell m8 5).trans rfl), ((blk_cell m8 6).trans rfl), ((blk_cell m8 7).trans rfl)⟩ (fun hHeld => ?_)
            clear hK K
            refine norm_ (a' := ?_) ?_ ?_
            rotate_left
            · show Act.put _ (some 9) _ = _
              simp only [Act.put, List.setIfInBounds_toArray, List.set_cons_zero, List.set_cons_succ, i64_w, i32_w]
              rfl
            refine one_ (i := 16) (N := some 36) #[true, true, true, true, true, true, true, true, true, true, true, true, true, true, true, true, true, false, true, false] rfl rfl (by kernel_rfl) (by decide) (fun K hK => ?_)
            have hcon_ := offR_any Xk rate (w12.alloc (.cells #[.int .i64 0, .int .i64 0] 35))
            refine goes_ Try.func67 (by kernel_rfl) rfl #[.agg #[.int .i64 Xk.f0, .int .i64 Xk.f1, .int .i64 Xk.f2, .int .i64 Xk.f3, .int .i64 Xk.f4.f0, .int .i64 Xk.f4.f1, .int .i64 Xk.f5.f0, .int .i64 Xk.f5.f1], .int .i64 rate] (by rfl) rfl rfl (by simp only [List.map_toArray, List.map_cons, List.map_nil]; rfl) ?_
            with_reducible refine (hcon_).mono ?_
            rintro e w16 ⟨rfl, hb⟩
            refine ⟨_, rfl, ?_⟩
            clear hcon_
            replace m3 := blk_below m3 hb
            replace m7 := blk_below m7 hb
            replace m8 := blk_below m8 hb
            replace m9 := blk_below m9 hb
            replace mB := below_step mB hb
            clear hb
            refine hK.out _ _ ⟨((blk_cell m3 0).trans rfl), ((blk_cell m3 1).trans rfl), ((blk_cell m3 2).trans rfl), ((blk_cell m7 0).trans rfl), ((blk_cell m7 1).trans rfl), ((blk_cell m7 2).trans rfl), ((blk_cell m7 3).trans rfl), ((blk_cell m7 4).trans rfl), ((blk_cell m7 5).trans rfl), ((blk_cell m7 6).trans rfl), ((blk_cell m7 7).trans rfl), ((blk_cell m8 0).trans rfl), ((blk_cell m8 1).trans rfl), ((blk_cell m8 2).trans rfl), ((blk_cell m8 3).trans rfl), ((blk_cell m8 4).trans rfl), ((blk_cell m8 5).trans rfl), ((blk_cell m8 6).trans rfl), ((blk_cell m8 7).trans rfl)⟩ (fun hHeld => ?_)
            clear hK K
            refine norm_ (a' := ?_) ?_ ?_
            rotate_left
            · show Act.put _ (some 36) _ = _
              simp only [Act.put, List.setIfInBounds_toArray, List.set_cons_zero, List.set_cons_succ, i64_w, i32_w]
              rfl
            refine one_ (i := 17) (N := some 37) #[true, true, true, true, true, true, true, true, true, true, true, true, true, true, true, true, true, true, true, false] rfl rfl (by kernel_rfl) (by decide) (fun K hK => ?_)
            have hcon_ := meetR_any (wrap64 ((offR Xi rate).1 - (growR rate (wrap64 (Xi.f3 - Xk.f3))))) (wrap64 ((offR Xi rate).2 + (growR rate (wrap64 (Xi.f3 - Xk.f3))))) (offR Xk rate).1 (offR Xk rate).2 w16
            refine goes_ Try.func86 (by kernel_rfl) rfl #[.agg #[.int .i64 (wrap64 ((offR Xi rate).1 - (growR rate (wrap64 (Xi.f3 - Xk.f3))))), .int .i64 (wrap64 ((offR Xi rate).2 + (growR rate (wrap64 (Xi.f3 - Xk.f3)))))], .agg #[.int .i64 (offR Xk rate).1, .int .i64 (offR Xk rate).2]] (by rfl) rfl rfl (by simp only [List.map_toArray, List.map_cons, List.map_nil]; rfl) ?_
            with_reducible refine (hcon_).mono ?_
            rintro e w17 ⟨rfl, hb⟩
            refine ⟨_, rfl, ?_⟩
            clear hcon_
            replace m3 := blk_below m3 hb
            replace m7 := blk_below m7 hb
            replace m8 := blk_below m8 hb
            replace m9 := blk_below m9 hb
            replace mB := below_step mB hb
            clear hb
            refine hK.out _ _ ⟨((blk_cell m3 0).trans rfl), ((blk_cell m3 1).trans rfl), ((blk_cell m3 2).trans rfl), ((blk_cell m7 0).trans rfl), ((blk_cell m7 1).trans rfl), ((blk_cell m7 2).trans rfl), ((blk_cell m7 3).trans rfl), ((blk_cell m7 4).trans rfl), ((blk_cell m7 5).trans rfl), ((blk_cell m7 6).trans rfl), ((blk_cell m7 7).trans rfl), ((blk_cell m8 0).trans rfl), ((blk_cell m8 1).trans rfl), ((blk_cell m8 2).trans rfl), ((blk_cell m8 3).trans rfl), ((blk_cell m8 4).trans rfl), ((blk_cell m8 5).trans rfl), ((blk_cell m8 6).trans rfl), ((blk_cell m8 7).trans rfl)⟩ (fun hHeld => ?_)
            clear hK K
            refine norm_ (a' := ?_) ?_ ?_
            rotate_left
            · show Act.put _ (some 37) _ = _
              simp only [Act.put, List.setIfInBounds_toArray, List.set_cons_zero, List.set_cons_succ, i64_w, i32_w]
              rfl
            exact norm_ (by first | (simp only [putAll, Act.put, List.setIfInBounds_toArray, List.set_cons_zero, List.set_cons_succ]; done) | (simp only [putAll, Act.put, List.setIfInBounds_toArray, List.set_cons_zero, List.set_cons_succ]; rfl)) (hCont (w12.heap.size) _ ⟨m3, m7, m8, m9, mB, hG9, hn_3_9, hn_7_9, hn_8_9⟩)
        · skip
          have hn_3_9 : g3 ≠ w11.heap.size := by have h_ := blk_lt m3; omega
          have hn_7_9 : g7 ≠ w11.heap.size := by have h_ := blk_lt m7; omega
          have hn_8_9 : g8 ≠ w11.heap.size := by have h_ := blk_lt m8; omega
          have hG9 : w.heap.size ≤ w11.heap.size := by have h_ := mB.size; omega
          replace m3 := blk_alloc m3 (.cells #[.int .i64 0, .int .i64 0] 35)
          replace m7 := blk_alloc m7 (.cells #[.int .i64 0, .int .i64 0] 35)
          replace m8 := blk_alloc m8 (.cells #[.int .i64 0, .int .i64 0] 35)
          have m9 : Blk (w11.alloc (.cells #[.int .i64 0, .int .i64 0] 35)) (w11.heap.size) #[.int .i64 0, .int .i64 0] 35 := by have h_ := blk_new w11 (.cells #[.int .i64 0, .int .i64 0] 35); first | exact h_ | (simp only [World.size_alloc] at h_; exact h_)
          replace mB := below_alloc mB (.cells #[.int .i64 0, .int .i64 0] 35)
          refine value_ (w1 := ?_) (v := ?_) (by rfl) rfl ?_ ?_
          rotate_left 2
          · go_simp
            constructor
            · rfl
            · rfl
          refine hK.out _ _ ⟨((blk_cell m3 0).trans rfl), ((blk_cell m3 1).trans rfl), ((blk_cell m3 2).trans rfl), ((blk_cell m7 0).trans rfl), ((blk_cell m7 1).trans rfl), ((blk_cell m7 2).trans rfl), ((blk_cell m7 3).trans rfl), ((blk_cell m7 4).trans rfl), ((blk_cell m7 5).trans rfl), ((blk_cell m7 6).trans rfl), ((blk_cell m7 7).trans rfl), ((blk_cell m8 0).trans rfl), ((blk_cell m8 1).trans rfl), ((blk_cell m8 2).trans rfl), ((blk_cell m8 3).trans rfl), ((blk_cell m8 4).trans rfl), ((blk_cell m8 5).trans rfl), ((blk_cell m8 6).trans rfl), ((blk_cell m8 7).trans rfl)⟩ (fun hHeld => ?_)
          clear hK K
          refine norm_ (a' := ?_) ?_ ?_
          rotate_left
          · show Act.put _ (some 9) _ = _
            simp only [Act.put, List.setIfInBounds_toArray, List.set_cons_zero, List.set_cons_succ, i64_w, i32_w]
            rfl
          refine one_ (i := 12) (N := some 32) #[true, true, true, true, true, true, true, true, true, true, true, true, true, true, true, true, false, false, true, false] rfl rfl (by kernel_rfl) (by decide) (fun K hK => ?_)
          have hcon_ := grownR_any (offR Xi rate).1 (offR Xi rate).2 (growR rate (wrap64 (Xi.f3 - Xk.f3))) (w11.alloc (.cells #[.int .i64 0, .int .i64 0] 35))
          refine goes_ Try.func95 (by kernel_rfl) rfl #[.agg #[.int .i64 (offR Xi rate).1, .int .i64 (offR Xi rate).2], .int .i64 (growR rate (wrap64 (Xi.f3 - Xk.f3)))] (by rfl) rfl rfl (by simp only [List.map_toArray, List.map_cons, List.map_nil]; rfl) ?_
          with_reducible refine (hcon_).mono ?_
          rintro e w12 ⟨rfl, hb⟩
          refine ⟨_, rfl, ?_⟩
          clear hcon_
          replace m3 := blk_below m3 hb
          replace m7 := blk_below m7 hb
          replace m8 := blk_below m8 hb
          replace m9 := blk_below m9 hb
          replace mB := below_step mB hb
          clear hb
          refine hK.out _ _ ⟨((blk_cell m3 0).trans rfl), ((blk_cell m3 1).trans rfl), ((blk_cell m3 2).trans rfl), ((blk_cell m7 0).trans rfl), ((blk_cell m7 1).trans rfl), ((blk_cell m7 2).trans rfl), ((blk_cell m7 3).trans rfl), ((blk_cell m7 4).trans rfl), ((blk_cell m7 5).trans rfl), ((blk_cell m7 6).trans rfl), ((blk_cell m7 7).trans rfl), ((blk_cell m8 0).trans rfl), ((blk_cell m8 1).trans rfl), ((blk_cell m8 2).trans rfl), ((blk_cell m8 3).trans rfl), ((blk_cell m8 4).trans rfl), ((blk_cell m8 5).trans rfl), ((blk_cell m8 6).trans rfl), ((blk_cell m8 7).trans rfl)⟩ (fun hHeld => ?_)
          clear hK K
          refine norm_ (a' := ?_) ?_ ?_
          rotate_left
          · show Act.put _ (some 32) _ = _
            simp only [Act.put, List.setIfInBounds_toArray, List.set_cons_zero, List.set_cons_succ, i64_w, i32_w]
            rfl
          refine one_ (i := 16) (N := some 36) #[true, true, true, true, true, true, true, true, true, true, true, true, true, true, true, true, true, false, true, false] rfl rfl (by kernel_rfl) (by decide) (fun K hK => ?_)
          have hcon_ := offR_any Xk rate w12
          refine goes_ Try.func67 (by kernel_rfl) rfl #[.agg #[.int .i64 Xk.f0, .int .i64 Xk.f1, .int .i64 Xk.f2, .int .i64 Xk.f3, .int .i64 Xk.f4.f0, .int .i64 Xk.f4.f1, .int .i64 Xk.f5.f0, .int .i64 Xk.f5.f1], .int .i64 rate] (by rfl) rfl rfl (by simp only [List.map_toArray, List.map_cons, List.map_nil]; rfl) ?_
          with_reducible refine (hcon_).mono ?_
          rintro e w16 ⟨rfl, hb⟩
          refine ⟨_, rfl, ?_⟩
          clear hcon_
          replace m3 := blk_below m3 hb
          replace m7 := blk_below m7 hb
          replace m8 := blk_below m8 hb
          replace m9 := blk_below m9 hb
          replace mB := below_step mB hb
          clear hb
          refine hK.out _ _ ⟨((blk_cell m3 0).trans rfl), ((blk_cell m3 1).trans rfl), ((blk_cell m3 2).trans rfl), ((blk_cell m7 0).trans rfl), ((blk_cell m7 1).trans rfl), ((blk_cell m7 2).trans rfl), ((blk_cell m7 3).trans rfl), ((blk_cell m7 4).trans rfl), ((blk_cell m7 5).trans rfl), ((blk_cell m7 6).trans rfl), ((blk_cell m7 7).trans rfl), ((blk_cell m8 0).trans rfl), ((blk_cell m8 1).trans rfl), ((blk_cell m8 2).trans rfl), ((blk_cell m8 3).trans rfl), ((blk_cell m8 4).trans rfl), ((blk_cell m8 5).trans rfl), ((blk_cell m8 6).trans rfl), ((blk_cell m8 7).trans rfl)⟩ (fun hHeld => ?_)
          clear hK K
          refine norm_ (a' := ?_) ?_ ?_
          rotate_left
          · show Act.put _ (some 36) _ = _
            simp only [Act.put, List.setIfInBounds_toArray, List.set_cons_zero, List.set_cons_succ, i64_w, i32_w]
            rfl
          refine one_ (i := 17) (N := some 37) #[true, true, true, true, true, true, true, true, true, true, true, true, true, true, true, true, true, true, true, false] rfl rfl (by kernel_rfl) (by decide) (fun K hK => ?_)
          have hcon_ := meetR_any (wrap64 ((offR Xi rate).1 - (growR rate (wrap64 (Xi.f3 - Xk.f3))))) (wrap64 ((offR Xi rate).2 + (growR rate (wrap64 (Xi.f3 - Xk.f3))))) (offR Xk rate).1 (offR Xk rate).2 w16
          refine goes_ Try.func86 (by kernel_rfl) rfl #[.agg #[.int .i64 (wrap64 ((offR Xi rate).1 - (growR rate (wrap64 (Xi.f3 - Xk.f3))))), .int .i64 (wrap64 ((offR Xi rate).2 + (growR rate (wrap64 (Xi.f3 - Xk.f3)))))], .agg #[.int .i64 (offR Xk rate).1, .int .i64 (offR Xk rate).2]] (by rfl) rfl rfl (by simp only [List.map_toArray, List.map_cons, List.map_nil]; rfl) ?_
          with_reducible refine (hcon_).mono ?_
          rintro e w17 ⟨rfl, hb⟩
          refine ⟨_, rfl, ?_⟩
          clear hcon_
          replace m3 := blk_below m3 hb
          replace m7 := blk_below m7 hb
          replace m8 := blk_below m8 hb
          replace m9 := blk_below m9 hb
          replace mB := below_step mB hb
          clear hb
          refine hK.out _ _ ⟨((blk_cell m3 0).trans rfl), ((blk_cell m3 1).trans rfl), ((blk_cell m3 2).trans rfl), ((blk_cell m7 0).trans rfl), ((blk_cell m7 1).trans rfl), ((blk_cell m7 2).trans rfl), ((blk_cell m7 3).trans rfl), ((blk_cell m7 4).trans rfl), ((blk_cell m7 5).trans rfl), ((blk_cell m7 6).trans rfl), ((blk_cell m7 7).trans rfl), ((blk_cell m8 0).trans rfl), ((blk_cell m8 1).trans rfl), ((blk_cell m8 2).trans rfl), ((blk_cell m8 3).trans rfl), ((blk_cell m8 4).trans rfl), ((blk_cell m8 5).trans rfl), ((blk_cell m8 6).trans rfl), ((blk_cell m8 7).trans rfl)⟩ (fun hHeld => ?_)
          clear hK K
          refine norm_ (a' := ?_) ?_ ?_
          rotate_left
          · show Act.put _ (some 37) _ = _
            simp only [Act.put, List.setIfInBounds_toArray, List.set_cons_zero, List.set_cons_succ, i64_w, i32_w]
            rfl
          exact norm_ (by first | (simp only [putAll, Act.put, List.setIfInBounds_toArray, List.set_cons_zero, List.set_cons_succ]; done) | (simp only [putAll, Act.put, List.setIfInBounds_toArray, List.set_cons_zero, List.set_cons_succ]; rfl)) (hCont (w11.heap.size) _ ⟨m3, m7, m8, m9, mB, hG9, hn_3_9, hn_7_9, hn_8_9⟩)
      · skip
        have hn_3_9 : g3 ≠ w3.heap.size := by have h_ := blk_lt m3; omega
        have hn_7_9 : g7 ≠ w3.heap.size := by have h_ := blk_lt m7; omega
        have hn_8_9 : g8 ≠ w3.heap.size := by have h_ := blk_lt m8; omega
        have hG9 : w.heap.size ≤ w3.heap.size := by have h_ := mB.size; omega
        replace m3 := blk_alloc m3 (.cells #[.int .i64 0, .int .i64 0] 35)
        replace m7 := blk_alloc m7 (.cells #[.int .i64 0, .int .i64 0] 35)
        replace m8 := blk_alloc m8 (.cells #[.int .i64 0, .int .i64 0] 35)
        have m9 : Blk (w3.alloc (.cells #[.int .i64 0, .int .i64 0] 35)) (w3.heap.size) #[.int .i64 0, .int .i64 0] 35 := by have h_ := blk_new w3 (.cells #[.int .i64 0, .int .i64 0] 35); first | exact h_ | (simp only [World.size_alloc] at h_; exact h_)
        replace mB := below_alloc mB (.cells #[.int .i64 0, .int .i64 0] 35)
        refine value_ (w1 := ?_) (v := ?_) (by rfl) rfl ?_ ?_
        rotate_left 2
        · go_simp
          constructor
          · rfl
          · rfl
        refine hK.out _ _ ⟨((blk_cell m3 0).trans rfl), ((blk_cell m3 1).trans rfl), ((blk_cell m3 2).trans rfl), ((blk_cell m7 0).trans rfl), ((blk_cell m7 1).trans rfl), ((blk_cell m7 2).trans rfl), ((blk_cell m7 3).trans rfl), ((blk_cell m7 4).trans rfl), ((blk_cell m7 5).trans rfl), ((blk_cell m7 6).trans rfl), ((blk_cell m7 7).trans rfl), ((blk_cell m8 0).trans rfl), ((blk_cell m8 1).trans rfl), ((blk_cell m8 2).trans rfl), ((blk_cell m8 3).trans rfl), ((blk_cell m8 4).trans rfl), ((blk_cell m8 5).trans rfl), ((blk_cell m8 6).trans rfl), ((blk_cell m8 7).trans rfl)⟩ (fun hHeld => ?_)
        clear hK K
        refine norm_ (a' := ?_) ?_ ?_
        rotate_left
        · show Act.put _ (some 9) _ = _
          simp only [Act.put, List.setIfInBounds_toArray, List.set_cons_zero, List.set_cons_succ, i64_w, i32_w]
          rfl
        refine one_ (i := 11) (N := some 31) #[true, true, true, true, true, true, true, true, true, true, true, true, false, true, true, true, false, false, true, false] rfl rfl (by kernel_rfl) (by decide) (fun K hK => ?_)
        have hcon_ := growR_any rate (wrap64 (Xi.f3 - Xk.f3)) (w3.alloc (.cells #[.int .i64 0, .int .i64 0] 35))
        refine goes_ Try.func24 (by kernel_rfl) rfl #[.int .i64 rate, .int .i64 (wrap64 (Xi.f3 - Xk.f3))] (by rfl) rfl rfl (by simp only [List.map_toArray, List.map_cons, List.map_nil]; rfl) ?_
        with_reducible refine (hcon_).mono ?_
        rintro e w11 ⟨rfl, hb⟩
        refine ⟨_, rfl, ?_⟩
        clear hcon_
        replace m3 := blk_below m3 hb
        replace m7 := blk_below m7 hb
        replace m8 := blk_below m8 hb
        replace m9 := blk_below m9 hb
        replace mB := below_step mB hb
        clear hb
        refine hK.out _ _ ⟨((blk_cell m3 0).trans rfl), ((blk_cell m3 1).trans rfl), ((blk_cell m3 2).trans rfl), ((blk_cell m7 0).trans rfl), ((blk_cell m7 1).trans rfl), ((blk_cell m7 2).trans rfl), ((blk_cell m7 3).trans rfl), ((blk_cell m7 4).trans rfl), ((blk_cell m7 5).trans rfl), ((blk_cell m7 6).trans rfl), ((blk_cell m7 7).trans rfl), ((blk_cell m8 0).trans rfl), ((blk_cell m8 1).trans rfl), ((blk_cell m8 2).trans rfl), ((blk_cell m8 3).trans rfl), ((blk_cell m8 4).trans rfl), ((blk_cell m8 5).trans rfl), ((blk_cell m8 6).trans rfl), ((blk_cell m8 7).trans rfl)⟩ (fun hHeld => ?_)
        clear hK K
        refine norm_ (a' := ?_) ?_ ?_
        rotate_left
        · show Act.put _ (some 31) _ = _
          simp only [Act.put, List.setIfInBounds_toArray, List.set_cons_zero, List.set_cons_succ, i64_w, i32_w]
          rfl
        refine one_ (i := 12) (N := some 32) #[true, true, true, true, true, true, true, true, true, true, true, true, true, true, true, true, false, false, true, false] rfl rfl (by kernel_rfl) (by decide) (fun K hK => ?_)
        have hcon_ := grownR_any (offR Xi rate).1 (offR Xi rate).2 (growR rate (wrap64 (Xi.f3 - Xk.f3))) w11
        refine goes_ Try.func95 (by kernel_rfl) rfl #[.agg #[.int .i64 (offR Xi rate).1, .int .i64 (offR Xi rate).2], .int .i64 (growR rate (wrap64 (Xi.f3 - Xk.f3)))] (by rfl) rfl rfl (by simp only [List.map_toArray, List.map_cons, List.map_nil]; rfl) ?_
        with_reducible refine (hcon_).mono ?_
        rintro e w12 ⟨rfl, hb⟩
        refine ⟨_, rfl, ?_⟩
        clear hcon_
        replace m3 := blk_below m3 hb
        replace m7 := blk_below m7 hb
        replace m8 := blk_below m8 hb
        replace m9 := blk_below m9 hb
        replace mB := below_step mB hb
        clear hb
        refine hK.out _ _ ⟨((blk_cell m3 0).trans rfl), ((blk_cell m3 1).trans rfl), ((blk_cell m3 2).trans rfl), ((blk_cell m7 0).trans rfl), ((blk_cell m7 1).trans rfl), ((blk_cell m7 2).trans rfl), ((blk_cell m7 3).trans rfl), ((blk_cell m7 4).trans rfl), ((blk_cell m7 5).trans rfl), ((blk_cell m7 6).trans rfl), ((blk_cell m7 7).trans rfl), ((blk_cell m8 0).trans rfl), ((blk_cell m8 1).trans rfl), ((blk_cell m8 2).trans rfl), ((blk_cell m8 3).trans rfl), ((blk_cell m8 4).trans rfl), ((blk_cell m8 5).trans rfl), ((blk_cell m8 6).trans rfl), ((blk_cell m8 7).trans rfl)⟩ (fun hHeld => ?_)
        clear hK K
        refine norm_ (a' := ?_) ?_ ?_
        rotate_left
        · show Act.put _ (some 32) _ = _
          simp only [Act.put, List.setIfInBounds_toArray, List.set_cons_zero, List.set_cons_succ, i64_w, i32_w]
          rfl
        refine one_ (i := 16) (N := some 36) #[true, true, true, true, true, true, true, true, true, true, true, true, true, true, true, true, true, false, true, false] rfl rfl (by kernel_rfl) (by decide) (fun K hK => ?_)
        have hcon_ := offR_any Xk rate w12
        refine goes_ Try.func67 (by kernel_rfl) rfl #[.agg #[.int .i64 Xk.f0, .int .i64 Xk.f1, .int .i64 Xk.f2, .int .i64 Xk.f3, .int .i64 Xk.f4.f0, .int .i64 Xk.f4.f1, .int .i64 Xk.f5.f0, .int .i64 Xk.f5.f1], .int .i64 rate] (by rfl) rfl rfl (by simp only [List.map_toArray, List.map_cons, List.map_nil]; rfl) ?_
        with_reducible refine (hcon_).mono ?_
        rintro e w16 ⟨rfl, hb⟩
        refine ⟨_, rfl, ?_⟩
        clear hcon_
        replace m3 := blk_below m3 hb
        replace m7 := blk_below m7 hb
        replace m8 := blk_below m8 hb
        replace m9 := blk_below m9 hb
        replace mB := below_step mB hb
        clear hb
        refine hK.out _ _ ⟨((blk_cell m3 0).trans rfl), ((blk_cell m3 1).trans rfl), ((blk_cell m3 2).trans rfl), ((blk_cell m7 0).trans rfl), ((blk_cell m7 1).trans rfl), ((blk_cell m7 2).trans rfl), ((blk_cell m7 3).trans rfl), ((blk_cell m7 4).trans rfl), ((blk_cell m7 5).trans rfl), ((blk_cell m7 6).trans rfl), ((blk_cell m7 7).trans rfl), ((blk_cell m8 0).trans rfl), ((blk_cell m8 1).trans rfl), ((blk_cell m8 2).trans rfl), ((blk_cell m8 3).trans rfl), ((blk_cell m8 4).trans rfl), ((blk_cell m8 5).trans rfl), ((blk_cell m8 6).trans rfl), ((blk_cell m8 7).trans rfl)⟩ (fun hHeld => ?_)
        clear hK K
        refine norm_ (a' := ?_) ?_ ?_
        rotate_left
        · show Act.put _ (some 36) _ = _
          simp only [Act.put, List.setIfInBounds_toArray, List.set_cons_zero, List.set_cons_succ, i64_w, i32_w]
          rfl
        refine one_ (i := 17) (N := some 37) #[true, true, true, true, true, true, true, true, true, true, true, true, true, true, true, true, true, true, true, false] rfl rfl (by kernel_rfl) (by decide) (fun K hK => ?_)
        have hcon_ := meetR_any (wrap64 ((offR Xi rate).1 - (growR rate (wrap64 (Xi.f3 - Xk.f3))))) (wrap64 ((offR Xi rate).2 + (growR rate (wrap64 (Xi.f3 - Xk.f3))))) (offR Xk rate).1 (offR Xk rate).2 w16
        refine goes_ Try.func86 (by kernel_rfl) rfl #[.agg #[.int .i64 (wrap64 ((offR Xi rate).1 - (growR rate (wrap64 (Xi.f3 - Xk.f3))))), .int .i64 (wrap64 ((offR Xi rate).2 + (growR rate (wrap64 (Xi.f3 - Xk.f3)))))], .agg #[.int .i64 (offR Xk rate).1, .int .i64 (offR Xk rate).2]] (by rfl) rfl rfl (by simp only [List.map_toArray, List.map_cons, List.map_nil]; rfl) ?_
        with_reducible refine (hcon_).mono ?_
        rintro e w17 ⟨rfl, hb⟩
        refine ⟨_, rfl, ?_⟩
        clear hcon_
        replace m3 := blk_below m3 hb
        replace m7 := blk_below m7 hb
        replace m8 := blk_below m8 hb
        replace m9 := blk_below m9 hb
        replace mB := below_step mB hb
        clear hb
        refine hK.out _ _ ⟨((blk_cell m3 0).trans rfl), ((blk_cell m3 1).trans rfl), ((blk_cell m3 2).trans rfl), ((blk_cell m7 0).trans rfl), ((blk_cell m7 1).trans rfl), ((blk_cell m7 2).trans rfl), ((blk_cell m7 3).trans rfl), ((blk_cell m7 4).trans rfl), ((blk_cell m7 5).trans rfl), ((blk_cell m7 6).trans rfl), ((blk_cell m7 7).trans rfl), ((blk_cell m8 0).trans rfl), ((blk_cell m8 1).trans rfl), ((blk_cell m8 2).trans rfl), ((blk_cell m8 3).trans rfl), ((blk_cell m8 4).trans rfl), ((blk_cell m8 5).trans rfl), ((blk_cell m8 6).trans rfl), ((blk_cell m8 7).trans rfl)⟩ (fun hHeld => ?_)
        clear hK K
        refine norm_ (a' := ?_) ?_ ?_
        rotate_left
        · show Act.put _ (some 37) _ = _
          simp only [Act.put, List.setIfInBounds_toArray, List.set_cons_zero, List.set_cons_succ, i64_w, i32_w]
          rfl
        exact norm_ (by first | (simp only [putAll, Act.put, List.setIfInBounds_toArray, List.set_cons_zero, List.set_cons_succ]; done) | (simp only [putAll, Act.put, List.setIfInBounds_toArray, List.set_cons_zero, List.set_cons_succ]; rfl)) (hCont (w3.heap.size) _ ⟨m3, m7, m8, m9, mB, hG9, hn_3_9, hn_7_9, hn_8_9⟩)
    · skip
      have hn_3_9 : g3 ≠ Wx.heap.size := by have h_ := blk_lt m3; omega
      have hn_7_9 : g7 ≠ Wx.heap.size := by have h_ := blk_lt m7; omega
      have hn_8_9 : g8 ≠ Wx.heap.size := by have h_ := blk_lt m8; omega
      have hG9 : w.heap.size ≤ Wx.heap.size := by have h_ := mB.size; omega
      replace m3 := blk_alloc m3 (.cells #[.int .i64 0, .int .i64 0] 35)
      replace m7 := blk_alloc m7 (.cells #[.int .i64 0, .int .i64 0] 35)
      replace m8 := blk_alloc m8 (.cells #[.int .i64 0, .int .i64 0] 35)
      have m9 : Blk (Wx.alloc (.cells #[.int .i64 0, .int .i64 0] 35)) (Wx.heap.size) #[.int .i64 0, .int .i64 0] 35 := by have h_ := blk_new Wx (.cells #[.int .i64 0, .int .i64 0] 35); first | exact h_ | (simp only [World.size_alloc] at h_; exact h_)
      replace mB := below_alloc mB (.cells #[.int .i64 0, .int .i64 0] 35)
      refine value_ (w1 := ?_) (v := ?_) (by rfl) rfl ?_ ?_
      rotate_left 2
      · go_simp
        constructor
        · rfl
        · rfl
      refine hK.out _ _ ⟨((blk_cell m3 0).trans rfl), ((blk_cell m3 1).trans rfl), ((blk_cell m3 2).trans rfl), ((blk_cell m7 0).trans rfl), ((blk_cell m7 1).trans rfl), ((blk_cell m7 2).trans rfl), ((blk_cell m7 3).trans rfl), ((blk_cell m7 4).trans rfl), ((blk_cell m7 5).trans rfl), ((blk_cell m7 6).trans rfl), ((blk_cell m7 7).trans rfl), ((blk_cell m8 0).trans rfl), ((blk_cell m8 1).trans rfl), ((blk_cell m8 2).trans rfl), ((blk_cell m8 3).trans rfl), ((blk_cell m8 4).trans rfl), ((blk_cell m8 5).trans rfl), ((blk_cell m8 6).trans rfl), ((blk_cell m8 7).trans rfl)⟩ (fun hHeld => ?_)
      clear hK K
      refine norm_ (a' := ?_) ?_ ?_
      rotate_left
      · show Act.put _ (some 9) _ = _
        simp only [Act.put, List.setIfInBounds_toArray, List.set_cons_zero, List.set_cons_succ, i64_w, i32_w]
        rfl
      refine one_ (i := 3) (N := some 23) #[true, true, true, true, true, true, true, true, true, true, true, false, false, true, true, true, false, false, true, false] rfl rfl (by kernel_rfl) (by decide) (fun K hK => ?_)
      have hcon_ := offR_any Xi rate (Wx.alloc (.cells #[.int .i64 0, .int .i64 0] 35))
      refine goes_ Try.func67 (by kernel_rfl) rfl #[.agg #[.int .i64 Xi.f0, .int .i64 Xi.f1, .int .i64 Xi.f2, .int .i64 Xi.f3, .int .i64 Xi.f4.f0, .int .i64 Xi.f4.f1, .int .i64 Xi.f5.f0, .int .i64 Xi.f5.f1], .int .i64 rate] (by rfl) rfl rfl (by simp only [List.map_toArray, List.map_cons, List.map_nil]; rfl) ?_
      with_reducible refine (hcon_).mono ?_
      rintro e w3 ⟨rfl, hb⟩
      refine ⟨_, rfl, ?_⟩
      clear hcon_
      replace m3 := blk_below m3 hb
      replace m7 := blk_below m7 hb
      replace m8 := blk_below m8 hb
      replace m9 := blk_below m9 hb
      replace mB := below_step mB hb
      clear hb
      refine hK.out _ _ ⟨((blk_cell m3 0).trans rfl), ((blk_cell m3 1).trans rfl), ((blk_cell m3 2).trans rfl), ((blk_cell m7 0).trans rfl), ((blk_cell m7 1).trans rfl), ((blk_cell m7 2).trans rfl), ((blk_cell m7 3).trans rfl), ((blk_cell m7 4).trans rfl), ((blk_cell m7 5).trans rfl), ((blk_cell m7 6).trans rfl), ((blk_cell m7 7).trans rfl), ((blk_cell m8 0).trans rfl), ((blk_cell m8 1).trans rfl), ((blk_cell m8 2).trans rfl), ((blk_cell m8 3).trans rfl), ((blk_cell m8 4).trans rfl), ((blk_cell m8 5).trans rfl), ((blk_cell m8 6).trans rfl), ((blk_cell m8 7).trans rfl)⟩ (fun hHeld => ?_)
      clear hK K
      refine norm_ (a' := ?_) ?_ ?_
      rotate_left
      · show Act.put _ (some 23) _ = _
        simp only [Act.put, List.setIfInBounds_toArray, List.set_cons_zero, List.set_cons_succ, i64_w, i32_w]
        rfl
      refine one_ (i := 11) (N := some 31) #[true, true, true, true, true, true, true, true, true, true, true, true, false, true, true, true, false, false, true, false] rfl rfl (by kernel_rfl) (by decide) (fun K hK => ?_)
      have hcon_ := growR_any rate (wrap64 (Xi.f3 - Xk.f3)) w3
      refine goes_ Try.func24 (by kernel_rfl) rfl #[.int .i64 rate, .int .i64 (wrap64 (Xi.f3 - Xk.f3))] (by rfl) rfl rfl (by simp only [List.map_toArray, List.map_cons, List.map_nil]; rfl) ?_
      with_reducible refine (hcon_).mono ?_
      rintro e w11 ⟨rfl, hb⟩
      refine ⟨_, rfl, ?_⟩
      clear hcon_
      replace m3 := blk_below m3 hb
      replace m7 := blk_below m7 hb
      replace m8 := blk_below m8 hb
      replace m9 := blk_below m9 hb
      replace mB := below_step mB hb
      clear hb
      refine hK.out _ _ ⟨((blk_cell m3 0).trans rfl), ((blk_cell m3 1).trans rfl), ((blk_cell m3 2).trans rfl), ((blk_cell m7 0).trans rfl), ((blk_cell m7 1).trans rfl), ((blk_cell m7 2).trans rfl), ((blk_cell m7 3).trans rfl), ((blk_cell m7 4).trans rfl), ((blk_cell m7 5).trans rfl), ((blk_cell m7 6).trans rfl), ((blk_cell m7 7).trans rfl), ((blk_cell m8 0).trans rfl), ((blk_cell m8 1).trans rfl), ((blk_cell m8 2).trans rfl), ((blk_cell m8 3).trans rfl), ((blk_cell m8 4).trans rfl), ((blk_cell m8 5).trans rfl), ((blk_cell m8 6).trans rfl), ((blk_cell m8 7).trans rfl)⟩ (fun hHeld => ?_)
      clear hK K
      refine norm_ (a' := ?_) ?_ ?_
      rotate_left
      · show Act.put _ (some 31) _ = _
        simp only [Act.put, List.setIfInBounds_toArray, List.set_cons_zero, List.set_cons_succ, i64_w, i32_w]
        rfl
      refine one_ (i := 12) (N := some 32) #[true, true, true, true, true, true, true, true, true, true, true, true, true, true, true, true, false, false, true, false] rfl rfl (by kernel_rfl) (by decide) (fun K hK => ?_)
      have hcon_ := grownR_any (offR Xi rate).1 (offR Xi rate).2 (growR rate (wrap64 (Xi.f3 - Xk.f3))) w11
      refine goes_ Try.func95 (by kernel_rfl) rfl #[.agg #[.int .i64 (offR Xi rate).1, .int .i64 (offR Xi rate).2], .int .i64 (growR rate (wrap64 (Xi.f3 - Xk.f3)))] (by rfl) rfl rfl (by simp only [List.map_toArray, List.map_cons, List.map_nil]; rfl) ?_
      with_reducible refine (hcon_).mono ?_
      rintro e w12 ⟨rfl, hb⟩
      refine ⟨_, rfl, ?_⟩
      clear hcon_
      replace m3 := blk_below m3 hb
      replace m7 := blk_below m7 hb
      replace m8 := blk_below m8 hb
      replace m9 := blk_below m9 hb
      replace mB := below_step mB hb
      clear hb
      refine hK.out _ _ ⟨((blk_cell m3 0).trans rfl), ((blk_cell m3 1).trans rfl), ((blk_cell m3 2).trans rfl), ((blk_cell m7 0).trans rfl), ((blk_cell m7 1).trans rfl), ((blk_cell m7 2).trans rfl), ((blk_cell m7 3).trans rfl), ((blk_cell m7 4).trans rfl), ((blk_cell m7 5).trans rfl), ((blk_cell m7 6).trans rfl), ((blk_cell m7 7).trans rfl), ((blk_cell m8 0).trans rfl), ((blk_cell m8 1).trans rfl), ((blk_cell m8 2).trans rfl), ((blk_cell m8 3).trans rfl), ((blk_cell m8 4).trans rfl), ((blk_cell m8 5).trans rfl), ((blk_cell m8 6).trans rfl), ((blk_cell m8 7).trans rfl)⟩ (fun hHeld => ?_)
      clear hK K
      refine norm_ (a' := ?_) ?_ ?_
      rotate_left
      · show Act.put _ (some 32) _ = _
        simp only [Act.put, List.setIfInBounds_toArray, List.set_cons_zero, List.set_cons_succ, i64_w, i32_w]
        rfl
      refine one_ (i := 16) (N := some 36) #[true, true, true, true, true, true, true, true, true, true, true, true, true, true, true, true, true, false, true, false] rfl rfl (by kernel_rfl) (by decide) (fun K hK => ?_)
      have hcon_ := offR_any Xk rate w12
      refine goes_ Try.func67 (by kernel_rfl) rfl #[.agg #[.int .i64 Xk.f0, .int .i64 Xk.f1, .int .i64 Xk.f2, .int .i64 Xk.f3, .int .i64 Xk.f4.f0, .int .i64 Xk.f4.f1, .int .i64 Xk.f5.f0, .int .i64 Xk.f5.f1], .int .i64 rate] (by rfl) rfl rfl (by simp only [List.map_toArray, List.map_cons, List.map_nil]; rfl) ?_
      with_reducible refine (hcon_).mono ?_
      rintro e w16 ⟨rfl, hb⟩
      refine ⟨_, rfl, ?_⟩
      clear hcon_
      replace m3 := blk_below m3 hb
      replace m7 := blk_below m7 hb
      replace m8 := blk_below m8 hb
      replace m9 := blk_below m9 hb
      replace mB := below_step mB hb
      clear hb
      refine hK.out _ _ ⟨((blk_cell m3 0).trans rfl), ((blk_cell m3 1).trans rfl), ((blk_cell m3 2).trans rfl), ((blk_cell m7 0).trans rfl), ((blk_cell m7 1).trans rfl), ((blk_cell m7 2).trans rfl), ((blk_cell m7 3).trans rfl), ((blk_cell m7 4).trans rfl), ((blk_cell m7 5).trans rfl), ((blk_cell m7 6).trans rfl), ((blk_cell m7 7).trans rfl), ((blk_cell m8 0).trans rfl), ((blk_cell m8 1).trans rfl), ((blk_cell m8 2).trans rfl), ((blk_cell m8 3).trans rfl), ((blk_cell m8 4).trans rfl), ((blk_cell m8 5).trans rfl), ((blk_cell m8 6).trans rfl), ((blk_cell m8 7).trans rfl)⟩ (fun hHeld => ?_)
      clear hK K
      refine norm_ (a' := ?_) ?_ ?_
      rotate_left
      · show Act.put _ (some 36) _ = _
        simp only [Act.put, List.setIfInBounds_toArray, List.set_cons_zero, List.set_cons_succ, i64_w, i32_w]
        rfl
      refine one_ (i := 17) (N := some 37) #[true, true, true, true, true, true, true, true, true, true, true, true, true, true, true, true, true, true, true, false] rfl rfl (by kernel_rfl) (by decide) (fun K hK => ?_)
      have hcon_ := meetR_any (wrap64 ((offR Xi rate).1 - (growR rate (wrap64 (Xi.f3 - Xk.f3))))) (wrap64 ((offR Xi rate).2 + (growR rate (wrap64 (Xi.f3 - Xk.f3))))) (offR Xk rate).1 (offR Xk rate).2 w16
      refine goes_ Try.func86 (by kernel_rfl) rfl #[.agg #[.int .i64 (wrap64 ((offR Xi rate).1 - (growR rate (wrap64 (Xi.f3 - Xk.f3))))), .int .i64 (wrap64 ((offR Xi rate).2 + (growR rate (wrap64 (Xi.f3 - Xk.f3)))))], .agg #[.int .i64 (offR Xk rate).1, .int .i64 (offR Xk rate).2]] (by rfl) rfl rfl (by simp only [List.map_toArray, List.map_cons, List.map_nil]; rfl) ?_
      with_reducible refine (hcon_).mono ?_
      rintro e w17 ⟨rfl, hb⟩
      refine ⟨_, rfl, ?_⟩
      clear hcon_
      replace m3 := blk_below m3 hb
      replace m7 := blk_below m7 hb
      replace m8 := blk_below m8 hb
      replace m9 := blk_below m9 hb
      replace mB := below_step mB hb
      clear hb
      refine hK.out _ _ ⟨((blk_cell m3 0).trans rfl), ((blk_cell m3 1).trans rfl), ((blk_cell m3 2).trans rfl), ((blk_cell m7 0).trans rfl), ((blk_cell m7 1).trans rfl), ((blk_cell m7 2).trans rfl), ((blk_cell m7 3).trans rfl), ((blk_cell m7 4).trans rfl), ((blk_cell m7 5).trans rfl), ((blk_cell m7 6).trans rfl), ((blk_cell m7 7).trans rfl), ((blk_cell m8 0).trans rfl), ((blk_cell m8 1).trans rfl), ((blk_cell m8 2).trans rfl), ((blk_cell m8 3).trans rfl), ((blk_cell m8 4).trans rfl), ((blk_cell m8 5).trans rfl), ((blk_cell m8 6).trans rfl), ((blk_cell m8 7).trans rfl)⟩ (fun hHeld => ?_)
      clear hK K
      refine norm_ (a' := ?_) ?_ ?_
      rotate_left
      · show Act.put _ (some 37) _ = _
        simp only [Act.put, List.setIfInBounds_toArray, List.set_cons_zero, List.set_cons_succ, i64_w, i32_w]
        rfl
      exact norm_ (by first | (simp only [putAll, Act.put, List.setIfInBounds_toArray, List.set_cons_zero, List.set_cons_succ]; done) | (simp only [putAll, Act.put, List.setIfInBounds_toArray, List.set_cons_zero, List.set_cons_succ]; rfl)) (hCont (Wx.heap.size) _ ⟨m3, m7, m8, m9, mB, hG9, hn_3_9, hn_7_9, hn_8_9⟩)
  rintro g9 Wg ⟨m3, m7, m8, m9, mB, hG9, hn_3_9, hn_7_9, hn_8_9⟩
  have hHeld : (Wg.cell? ⟨g3, 0, none⟩ = some (.int .i64 par) ∧ Wg.cell? ⟨g3, 1, none⟩ = some (.int .i64 rate) ∧ Wg.cell? ⟨g3, 2, none⟩ = some (.slice (some ad) xs.length c) ∧ Wg.cell? ⟨g7, 0, none⟩ = some (.int .i64 Xi.f0) ∧ Wg.cell? ⟨g7, 1, none⟩ = some (.int .i64 Xi.f1) ∧ Wg.cell? ⟨g7, 2, none⟩ = some (.int .i64 Xi.f2) ∧ Wg.cell? ⟨g7, 3, none⟩ = some (.int .i64 Xi.f3) ∧ Wg.cell? ⟨g7, 4, none⟩ = some (.int .i64 Xi.f4.f0) ∧ Wg.cell? ⟨g7, 5, none⟩ = some (.int .i64 Xi.f4.f1) ∧ Wg.cell? ⟨g7, 6, none⟩ = some (.int .i64 Xi.f5.f0) ∧ Wg.cell? ⟨g7, 7, none⟩ = some (.int .i64 Xi.f5.f1) ∧ Wg.cell? ⟨g8, 0, none⟩ = some (.int .i64 Xk.f0) ∧ Wg.cell? ⟨g8, 1, none⟩ = some (.int .i64 Xk.f1) ∧ Wg.cell? ⟨g8, 2, none⟩ = some (.int .i64 Xk.f2) ∧ Wg.cell? ⟨g8, 3, none⟩ = some (.int .i64 Xk.f3) ∧ Wg.cell? ⟨g8, 4, none⟩ = some (.int .i64 Xk.f4.f0) ∧ Wg.cell? ⟨g8, 5, none⟩ = some (.int .i64 Xk.f4.f1) ∧ Wg.cell? ⟨g8, 6, none⟩ = some (.int .i64 Xk.f5.f0) ∧ Wg.cell? ⟨g8, 7, none⟩ = some (.int .i64 Xk.f5.f1)) := ⟨((blk_cell m3 0).trans rfl), ((blk_cell m3 1).trans rfl), ((blk_cell m3 2).trans rfl), ((blk_cell m7 0).trans rfl), ((blk_cell m7 1).trans rfl), ((blk_cell m7 2).trans rfl), ((blk_cell m7 3).trans rfl), ((blk_cell m7 4).trans rfl), ((blk_cell m7 5).trans rfl), ((blk_cell m7 6).trans rfl), ((blk_cell m7 7).trans rfl), ((blk_cell m8 0).trans rfl), ((blk_cell m8 1).trans rfl), ((blk_cell m8 2).trans rfl), ((blk_cell m8 3).trans rfl), ((blk_cell m8 4).trans rfl), ((blk_cell m8 5).trans rfl), ((blk_cell m8 6).trans rfl), ((blk_cell m8 7).trans rfl)⟩
  refine norm_ (a' := ?_) ?_ ?_
  rotate_left
  · simp only [putAll, Act.put, List.setIfInBounds_toArray, List.set_cons_zero, List.set_cons_succ]
    rfl
  refine last_ (i := 19) (N := none) #[true, true, true, true, true, true, true, true, true, true, true, true, true, true, true, true, true, true, true, true] rfl rfl (by kernel_rfl) (by decide) (fun K hK => ?_)
  have hf0_ := blk_frozen m9 0
  have hc0_ := (blk_cell m9 0).trans rfl
  have hf1_ := blk_frozen m9 1
  have hc1_ := (blk_cell m9 1).trans rfl
  refine skip_ (w1 := ?_) (by rfl) rfl ?_ ?_
  rotate_left
  · go_simp
    rfl
  clear hf0_ hc0_ hf1_ hc1_
  replace m3 : Blk (Wg.setCell ⟨g9, 0, none⟩ (.int .i64 (mx (wrap64 ((offR Xi rate).1 - (growR rate (wrap64 (Xi.f3 - Xk.f3))))) (offR Xk rate).1))) g3 #[.int .i64 par, .int .i64 rate, .slice (some ad) xs.length c] 30 := blk_far (p := ⟨g9, 0, none⟩) m3 hn_3_9 _
  replace m7 : Blk (Wg.setCell ⟨g9, 0, none⟩ (.int .i64 (mx (wrap64 ((offR Xi rate).1 - (growR rate (wrap64 (Xi.f3 - Xk.f3))))) (offR Xk rate).1))) g7 #[.int .i64 Xi.f0, .int .i64 Xi.f1, .int .i64 Xi.f2, .int .i64 Xi.f3, .int .i64 Xi.f4.f0, .int .i64 Xi.f4.f1, .int .i64 Xi.f5.f0, .int .i64 Xi.f5.f1] 46 := blk_far (p := ⟨g9, 0, none⟩) m7 hn_7_9 _
  replace m8 : Blk (Wg.setCell ⟨g9, 0, none⟩ (.int .i64 (mx (wrap64 ((offR Xi rate).1 - (growR rate (wrap64 (Xi.f3 - Xk.f3))))) (offR Xk rate).1))) g8 #[.int .i64 Xk.f0, .int .i64 Xk.f1, .int .i64 Xk.f2, .int .i64 Xk.f3, .int .i64 Xk.f4.f0, .int .i64 Xk.f4.f1, .int .i64 Xk.f5.f0, .int .i64 Xk.f5.f1] 46 := blk_far (p := ⟨g9, 0, none⟩) m8 hn_8_9 _
  replace m9 : Blk (Wg.setCell ⟨g9, 0, none⟩ (.int .i64 (mx (wrap64 ((offR Xi rate).1 - (growR rate (wrap64 (Xi.f3 - Xk.f3))))) (offR Xk rate).1))) g9 #[.int .i64 (mx (wrap64 ((offR Xi rate).1 - (growR rate (wrap64 (Xi.f3 - Xk.f3))))) (offR Xk rate).1), .int .i64 0] 35 := blk_put m9 0 _ rfl
  replace mB : Below w.heap.size w (Wg.setCell ⟨g9, 0, none⟩ (.int .i64 (mx (wrap64 ((offR Xi rate).1 - (growR rate (wrap64 (Xi.f3 - Xk.f3))))) (offR Xk rate).1))) := mB.setCell (p := ⟨g9, 0, none⟩) hG9 _
  replace m3 : Blk ((Wg.setCell ⟨g9, 0, none⟩ (.int .i64 (mx (wrap64 ((offR Xi rate).1 - (growR rate (wrap64 (Xi.f3 - Xk.f3))))) (offR Xk rate).1))).setCell ⟨g9, 1, none⟩ (.int .i64 (mn (wrap64 ((offR Xi rate).2 + (growR rate (wrap64 (Xi.f3 - Xk.f3))))) (offR Xk rate).2))) g3 #[.int .i64 par, .int .i64 rate, .slice (some ad) xs.length c] 30 := blk_far (p := ⟨g9, 1, none⟩) m3 hn_3_9 _
  replace m7 : Blk ((Wg.setCell ⟨g9, 0, none⟩ (.int .i64 (mx (wrap64 ((offR Xi rate).1 - (growR rate (wrap64 (Xi.f3 - Xk.f3))))) (offR Xk rate).1))).setCell ⟨g9, 1, none⟩ (.int .i64 (mn (wrap64 ((offR Xi rate).2 + (growR rate (wrap64 (Xi.f3 - Xk.f3))))) (offR Xk rate).2))) g7 #[.int .i64 Xi.f0, .int .i64 Xi.f1, .int .i64 Xi.f2, .int .i64 Xi.f3, .int .i64 Xi.f4.f0, .int .i64 Xi.f4.f1, .int .i64 Xi.f5.f0, .int .i64 Xi.f5.f1] 46 := blk_far (p := ⟨g9, 1, none⟩) m7 hn_7_9 _
  replace m8 : Blk ((Wg.setCell ⟨g9, 0, none⟩ (.int .i64 (mx (wrap64 ((offR Xi rate).1 - (growR rate (wrap64 (Xi.f3 - Xk.f3))))) (offR Xk rate).1))).setCell ⟨g9, 1, none⟩ (.int .i64 (mn (wrap64 ((offR Xi rate).2 + (growR rate (wrap64 (Xi.f3 - Xk.f3))))) (offR Xk rate).2))) g8 #[.int .i64 Xk.f0, .int .i64 Xk.f1, .int .i64 Xk.f2, .int .i64 Xk.f3, .int .i64 Xk.f4.f0, .int .i64 Xk.f4.f1, .int .i64 Xk.f5.f0, .int .i64 Xk.f5.f1] 46 := blk_far (p := ⟨g9, 1, none⟩) m8 hn_8_9 _
  replace m9 : Blk ((Wg.setCell ⟨g9, 0, none⟩ (.int .i64 (mx (wrap64 ((offR Xi rate).1 - (growR rate (wrap64 (Xi.f3 - Xk.f3))))) (offR Xk rate).1))).setCell ⟨g9, 1, none⟩ (.int .i64 (mn (wrap64 ((offR Xi rate).2 + (growR rate (wrap64 (Xi.f3 - Xk.f3))))) (offR Xk rate).2))) g9 #[.int .i64 (mx (wrap64 ((offR Xi rate).1 - (growR rate (wrap64 (Xi.f3 - Xk.f3))))) (offR Xk rate).1), .int .i64 (mn (wrap64 ((offR Xi rate).2 + (growR rate (wrap64 (Xi.f3 - Xk.f3))))) (offR Xk rate).2)] 35 := blk_put m9 1 _ rfl
  replace mB : Below w.heap.size w ((Wg.setCell ⟨g9, 0, none⟩ (.int .i64 (mx (wrap64 ((offR Xi rate).1 - (growR rate (wrap64 (Xi.f3 - Xk.f3))))) (offR Xk rate).1))).setCell ⟨g9, 1, none⟩ (.int .i64 (mn (wrap64 ((offR Xi rate).2 + (growR rate (wrap64 (Xi.f3 - Xk.f3))))) (offR Xk rate).2))) := mB.setCell (p := ⟨g9, 1, none⟩) hG9 _
  refine hK.out _ _ ?_
  clear hK K
  refine done_ (by kernel_rfl) ?_
  generalize hW_ : ((Wg.setCell ⟨g9, 0, none⟩ (.int .i64 (mx (wrap64 ((offR Xi rate).1 - (growR rate (wrap64 (Xi.f3 - Xk.f3))))) (offR Xk rate).1))).setCell ⟨g9, 1, none⟩ (.int .i64 (mn (wrap64 ((offR Xi rate).2 + (growR rate (wrap64 (Xi.f3 - Xk.f3))))) (offR Xk rate).2))) = W5 at m3 m7 m8 m9 mB ⊢
  clear hW_
  generalize hM1 : (mx (wrap64 ((offR Xi rate).1 - (growR rate (wrap64 (Xi.f3 - Xk.f3))))) (offR Xk rate).1) = M1 at *
  generalize hM2 : (mn (wrap64 ((offR Xi rate).2 + (growR rate (wrap64 (Xi.f3 - Xk.f3))))) (offR Xk rate).2) = M2 at *
  have H1 := Lib.hid hM1
  have H2 := Lib.hid hM2
  clear hM1 hM2
  have c9_0 := (blk_cell m9 0).trans rfl
  have c9_1 := (blk_cell m9 1).trans rfl
  go_wp2
  go_ret
  exact ⟨by rw [HC.out]; rfl, mB⟩
end Go.Proofs.Ytcjdhajdoikojaa.Clk
namespace Go.Proofs.Ytcjdhajdoikojaa.Pr
open Go.RowKit Go.Proofs.YtcjdhajdoikojaaW.PrintWords Go.Proofs.YtcjdhajdoikojaaW.PrintLast Go.Proofs.YtcjdhajdoikojaaW.PrintMore Go.Proofs.Ytcjdhajdoikojaa.Clk
set_option linter.unusedVariables false
def isobathref05_contradict.f (a0_0 : Int) (a0_1 : Int) (l0_2 : List (S46)) (a1 : Int) (a2 : Int) : Option (Bool) :=
  if 0 ≤ a1 ∧ a1 < (l0_2.length : Int) ∧ 0 ≤ a2 ∧ a2 < (l0_2.length : Int) then some (conR a0_1 (rd_T46 l0_2 a1) (rd_T46 l0_2 a2)) else none
theorem isobathref05_contradict.calls (a0_0 : Int) (a0_1 : Int) (A0_2 : Option Addr) (c0_2 : Nat) (l0_2 : List (S46)) (a1 : Int) (a2 : Int) (r : Bool) (w : World) (hr0_2 : Kd.C k46 w A0_2 l0_2.length l0_2) (hc0_2 : l0_2.length ≤ c0_2) (h : isobathref05_contradict.f a0_0 a0_1 l0_2 a1 a2 = some r) :
    Calls Try.prog 77 #[.agg #[.int .i64 a0_0, .int .i64 a0_1, .slice A0_2 l0_2.length c0_2], .int .i64 a1, .int .i64 a2] w fun e w' => e = .returned (.bool r) ∧ Below w.heap.size w w' := by
  unfold isobathref05_contradict.f at h
  split at h
  case isTrue hh =>
    cases h
    exact conR_any a0_0 a0_1 A0_2 c0_2 l0_2 a1 a2 hh.1 hh.2.1 hh.2.2.1 hh.2.2.2 w hr0_2 hc0_2
  case isFalse => cases h
end Go.Proofs.Ytcjdhajdoikojaa.Pr
end
section
-- PRINTED by print.py (a twelfth state) out of the translation. Not trusted: Lean checks it.
namespace Go.Proofs.Ytcjdhajdoikojaa.Pr
open Go.RowKit Go.Proofs.YtcjdhajdoikojaaW.PrintWords Go.Proofs.YtcjdhajdoikojaaW.PrintLast Go.Proofs.YtcjdhajdoikojaaW.PrintMore
attribute [local go_sem] max2_int min2_int max_two min_two
set_option linter.unusedVariables false
set_option linter.unusedSimpArgs false

/-! ### isobathref05_contradiction: function 75 -/
mutual
def isobathref05_contradiction.l0 : Nat → Int → Int → Int → List (S46) → Option (Int × Int)
  | 0, _, _, _, _ => none
  | k + 1, x4, x382000, x382001, x382002 => if x4 < (x382002.length : Int) then (isobathref05_contradiction.l1 k x4 0 x382000 x382001 x382002) else (some ((-1), (-1)))
def isobathref05_contradiction.l1 : Nat → Int → Int → Int → Int → List (S46) → Option (Int × Int)
  | 0, _, _, _, _, _ => none
  | k + 1, x4, x5, x382000, x382001, x382002 => if x5 < x4 then ((isobathref05_contradict.f x382000 x382001 x382002 x5 x4).bind fun t382 => (if t382 = true then (some (x5, x4)) else (isobathref05_contradiction.l1 k x4 (wrap64 (x5 + 1)) x382000 x382001 x382002))) else (isobathref05_contradiction.l0 k (wrap64 (x4 + 1)) x382000 x382001 x382002)
end
def isobathref05_contradiction.f (k : Nat) (a0_0 : Int) (a0_1 : Int) (l0_2 : List (S46)) : Option (Int × Int) := isobathref05_contradiction.l0 k 0 a0_0 a0_1 l0_2
set_option maxHeartbeats 8000000 in
set_option maxRecDepth 100000 in
theorem isobathref05_contradiction.calls (k : Nat) (a0_0 : Int) (a0_1 : Int) (A0_2 : Option Addr) (c0_2 : Nat) (l0_2 : List (S46)) (r1 : Int) (r2 : Int) (w : World) (hr0_2 : Kd.C k46 w A0_2 l0_2.length l0_2) (hc0_2 : l0_2.length ≤ c0_2) (h : isobathref05_contradiction.f k a0_0 a0_1 l0_2 = some (r1, r2)) :
    Calls Try.prog 75 #[.agg #[.int .i64 a0_0, .int .i64 a0_1, .slice A0_2 l0_2.length c0_2]] w fun e w' => e = .returned (.tuple #[.int .i64 r1, .int .i64 r2]) ∧ Below w.heap.size w w' := by
  have hu30 := Try.underlying30
  have HR0_2 := Aside0.mk hr0_2
  have HC0_2 := Aside0.mk hc0_2
  clear hr0_2 hc0_2
  have HB := Aside0.mk (Below.refl w.heap.size w)
  have H : (isobathref05_contradiction.l0 k 0 a0_0 a0_1 l0_2) = some (r1, r2) := h
  clear h
  have H' := Aside0.mk H
  clear H
  go_enter Try.func75, Try.ntmps75
  go_wp2_with (first | ((with_reducible refine gate_dst (N := 1) rfl ?_); refine box_event ?hg (N := 1) ?hd (cs := #[.int .i64 a0_0, .int .i64 a0_1, .slice A0_2 l0_2.length c0_2]) (t := 30) ?hr ?_; (case hd => rfl); (case hg => rfl); (case hr => first | (go_simp; done) | (go_simp; rfl)); intro gb381 hg w2 hbox hb; have n0_ := Aside0.mk (below_step (by repeat (first | (with_reducible first | exact HB.out | apply below_alloc | apply pw_below_drewN | apply below_drew1) | exact HB.out)) hb); have n1_ := Aside0.mk (hbox); have n2_ := Aside0.mk ((by rw [hg]; exact (below_size (by repeat (first | (with_reducible first | exact HB.out | apply below_alloc | apply pw_below_drewN | apply below_drew1) | exact HB.out))) : w.heap.size ≤ gb381)); have n3_ := Aside0.mk ((by rw [hg]; exact (below_size (by repeat (first | (with_reducible first | exact HB.out | apply below_alloc | apply pw_below_drewN | apply below_drew1) | exact HB.out))) : w.heap.size ≤ gb381)); clear HB; have HB := n0_; have BK381 := n1_; have GW381 := n2_; have GE381 := n3_; clear n0_ n1_ n2_ n3_; clear hb hbox hg))
  go_loopg [4] k (fun kq v4 w' => ∃ (x4_1 : Int), v4 = .int .i64 x4_1 ∧ Aside0 (isobathref05_contradiction.l0 kq x4_1 a0_0 a0_1 l0_2 = some (r1, r2)) ∧ Aside0 (kq ≤ k) ∧ Aside0 (w'.heap[gb381]? = some (.cells #[.int .i64 a0_0, .int .i64 a0_1, (.slice A0_2 l0_2.length c0_2)] 30 (0, 0))) ∧ Aside0 (Below w.heap.size w w'))
  case atStart => exact ⟨(0), (by first | rfl | (simp; done) | (simp [*]; done)), H', ⟨Nat.le_refl _⟩, ⟨by (with_reducible repeat (first | refine blk_drewN ?_ _ | refine blk_drew ?_ | refine blk_alloc ?_ _)); exact BK381.out⟩, ⟨by repeat (first | (with_reducible first | exact HB.out | apply below_alloc | apply pw_below_drewN | apply below_drew1 | refine below_set ?_ GE381.out) | exact HB.out)⟩⟩
  case round =>
    clear H'
    try clear p2
    obtain ⟨x4_1, rfl, HA, HK1, BK381, HB⟩ := hrel
    cases gk with
    | zero => exact absurd HA.out (by simp [isobathref05_contradiction.l0])
    | succ k1 =>
      have H := HA.out
      clear HA
      simp only [isobathref05_contradiction.l0] at H
      by_cases c3 : x4_1 < (l0_2.length : Int)
      · rw [if_pos c3] at H
        have c3b0 : decide (x4_1 < (l0_2.length : Int)) = true := decide_eq_true c3
        clear c3
        have H' := Aside0.mk H
        clear H
        have hcz4_0 : wr.cell? ⟨gb381, 0, none⟩ = some (.int .i64 a0_0) := (blk_cell BK381.out 0).trans rfl
        have hcz4_1 : wr.cell? ⟨gb381, 1, none⟩ = some (.int .i64 a0_1) := (blk_cell BK381.out 1).trans rfl
        have hcz4_2 : wr.cell? ⟨gb381, 2, none⟩ = some (.slice A0_2 l0_2.length c0_2) := (blk_cell BK381.out 2).trans rfl
        have hfz4_0 := blk_frozen BK381.out 0
        have hfz4_1 := blk_frozen BK381.out 1
        have hfz4_2 := blk_frozen BK381.out 2
        go_wp2
        go_loopg [5] k1 (fun kq v5 w' => ∃ (x5_2 : Int), v5 = .int .i64 x5_2 ∧ Aside0 (isobathref05_contradiction.l1 kq x4_1 x5_2 a0_0 a0_1 l0_2 = some (r1, r2)) ∧ Aside0 (kq ≤ k1) ∧ Aside0 (w'.heap[gb381]? = some (.cells #[.int .i64 a0_0, .int .i64 a0_1, (.slice A0_2 l0_2.length c0_2)] 30 (0, 0))) ∧ Aside0 (Below w.heap.size w w'))
        case atStart => exact ⟨(0), (by first | rfl | (simp; done) | (simp [*]; done)), H', ⟨Nat.le_refl _⟩, ⟨by (with_reducible repeat (first | refine blk_drewN ?_ _ | refine blk_drew ?_ | refine blk_alloc ?_ _)); exact BK381.out⟩, ⟨by repeat (first | (with_reducible first | exact HB.out | apply below_alloc | apply pw_below_drewN | apply below_drew1 | refine below_set ?_ GE381.out) | exact HB.out)⟩⟩
        case round =>
          clear H'
          try clear p2
          try clear c3
          try clear c3b0
          try clear hcz4_0
          try clear hcz4_1
          try clear hcz4_2
          try clear hfz4_0
          try clear hfz4_1
          try clear hfz4_2
          try clear p2
          obtain ⟨x5_2, rfl, HA, HK2, BK381, HB⟩ := hrel
          cases gk with
          | zero => exact absurd HA.out (by simp [isobathref05_contradiction.l1])
          | succ k2 =>
            have H := HA.out
            clear HA
            simp only [isobathref05_contradiction.l1] at H
            by_cases c5 : x5_2 < x4_1
            · rw [if_pos c5] at H
              have c5b0 : decide (x5_2 < x4_1) = true := decide_eq_true c5
              clear c5
              replace H := Option.bind_eq_some_iff.mp H
              obtain ⟨t382, A60, H⟩ := H
              replace H : (if t382 = true then (some (x5_2, x4_1)) else (isobathref05_contradiction.l1 k2 x4_1 (wrap64 (x5_2 + 1)) a0_0 a0_1 l0_2)) = some (r1, r2) := H
              have A6 := Aside0.mk A60
              clear A60
              by_cases c7 : t382 = true
              · subst c7
                have H1 : (some (x5_2, x4_1)) = some (r1, r2) := by rw [if_pos rfl] at H; exact H
                clear H
                have H := H1
                clear H1
                simp only [Option.some.injEq, Prod.mk.injEq] at H
                obtain ⟨rfl, rfl⟩ := H
                have hcz8_0 : wr.cell? ⟨gb381, 0, none⟩ = some (.int .i64 a0_0) := (blk_cell BK381.out 0).trans rfl
                have hcz8_1 : wr.cell? ⟨gb381, 1, none⟩ = some (.int .i64 a0_1) := (blk_cell BK381.out 1).trans rfl
                have hcz8_2 : wr.cell? ⟨gb381, 2, none⟩ = some (.slice A0_2 l0_2.length c0_2) := (blk_cell BK381.out 2).trans rfl
                have hfz8_0 := blk_frozen BK381.out 0
                have hfz8_1 := blk_frozen BK381.out 1
                have hfz8_2 := blk_frozen BK381.out 2
                go_wp2_with (first | ((with_reducible refine gate_callee (f := 77) rfl ?_); refine goesL_ (some 21) rfl rfl Try.func77 (by kernel_rfl) rfl #[.agg #[.int .i64 a0_0, .int .i64 a0_1, .slice A0_2 l0_2.length c0_2], .int .i64 x5_2, .int .i64 x4_1] rfl (by (try simp only [List.map_toArray, List.map_cons, List.map_nil]); first | done | rfl | (simp only [List.length_drop, List.length_take]; rfl)) ?_; (with_reducible refine (isobathref05_contradict.calls a0_0 a0_1 _ _ l0_2 x5_2 x4_1 true _ ?side1 ?side2 A6.out).mono ?_); (case side1 => repeat (first | exact (Kd.C_below HR0_2.out HB.out) | (with_reducible refine Kd.C_alloc ?_ _) | (with_reducible refine Kd.C_drewN ?_ _) | (with_reducible refine Kd.C_drew ?_))); (case side2 => exact HC0_2.out); rintro e w9 ⟨rfl, hb⟩; refine ⟨_, rfl, ?_⟩; have n0_ := Aside0.mk (blk_below (g := gb381) (o := .cells #[.int .i64 a0_0, .int .i64 a0_1, .slice A0_2 l0_2.length c0_2] 30 (0, 0)) (by (with_reducible repeat (first | refine blk_drewN ?_ _ | refine blk_drew ?_ | refine blk_alloc ?_ _)); exact BK381.out) hb); have n1_ := Aside0.mk (below_step (by repeat (first | (with_reducible first | exact HB.out | apply below_alloc | apply pw_below_drewN | apply below_drew1 | refine below_set ?_ GE381.out) | exact HB.out)) hb); clear BK381; clear HB; have BK381 := n0_; have HB := n1_; clear n0_ n1_; (try clear hb); (try clear hb2); (try clear hk); (try clear hi)))
                go_ret2
                exact ⟨by first | rfl | (simp [errW_none, errW_some] <;> rfl) | (simp [*, errW_none, errW_some] <;> rfl), by repeat (first | (with_reducible first | exact HB.out | apply below_alloc | apply pw_below_drewN | apply below_drew1 | refine below_set ?_ GE381.out) | exact HB.out)⟩
              · replace c7 := Bool.eq_false_iff.mpr c7
                subst c7
                have H1 : (isobathref05_contradiction.l1 k2 x4_1 (wrap64 (x5_2 + 1)) a0_0 a0_1 l0_2) = some (r1, r2) := by rw [if_neg (show ¬ (false = true) by decide)] at H; exact H
                clear H
                have H := H1
                clear H1
                have H' := Aside0.mk H
                clear H
                have hcz10_0 : wr.cell? ⟨gb381, 0, none⟩ = some (.int .i64 a0_0) := (blk_cell BK381.out 0).trans rfl
                have hcz10_1 : wr.cell? ⟨gb381, 1, none⟩ = some (.int .i64 a0_1) := (blk_cell BK381.out 1).trans rfl
                have hcz10_2 : wr.cell? ⟨gb381, 2, none⟩ = some (.slice A0_2 l0_2.length c0_2) := (blk_cell BK381.out 2).trans rfl
                have hfz10_0 := blk_frozen BK381.out 0
                have hfz10_1 := blk_frozen BK381.out 1
                have hfz10_2 := blk_frozen BK381.out 2
                go_wp2_with (first | ((with_reducible refine gate_callee (f := 77) rfl ?_); refine goesL_ (some 21) rfl rfl Try.func77 (by kernel_rfl) rfl #[.agg #[.int .i64 a0_0, .int .i64 a0_1, .slice A0_2 l0_2.length c0_2], .int .i64 x5_2, .int .i64 x4_1] rfl (by (try simp only [List.map_toArray, List.map_cons, List.map_nil]); first | done | rfl | (simp only [List.length_drop, List.length_take]; rfl)) ?_; (with_reducible refine (isobathref05_contradict.calls a0_0 a0_1 _ _ l0_2 x5_2 x4_1 false _ ?side1 ?side2 A6.out).mono ?_); (case side1 => repeat (first | exact (Kd.C_below HR0_2.out HB.out) | (with_reducible refine Kd.C_alloc ?_ _) | (with_reducible refine Kd.C_drewN ?_ _) | (with_reducible refine Kd.C_drew ?_))); (case side2 => exact HC0_2.out); rintro e w11 ⟨rfl, hb⟩; refine ⟨_, rfl, ?_⟩; have n0_ := Aside0.mk (blk_below (g := gb381) (o := .cells #[.int .i64 a0_0, .int .i64 a0_1, .slice A0_2 l0_2.length c0_2] 30 (0, 0)) (by (with_reducible repeat (first | refine blk_drewN ?_ _ | refine blk_drew ?_ | refine blk_alloc ?_ _)); exact BK381.out) hb); have n1_ := Aside0.mk (below_step (by repeat (first | (with_reducible first | exact HB.out | apply below_alloc | apply pw_below_drewN | apply below_drew1 | refine below_set ?_ GE381.out) | exact HB.out)) hb); clear BK381; clear HB; have BK381 := n0_; have HB := n1_; clear n0_ n1_; (try clear hb); (try clear hb2); (try clear hk); (try clear hi)))
                go_roundg k2
                case measure => have := HK1.out; have := HK2.out; omega
                case rel => exact ⟨(wrap64 (x5_2 + 1)), (by first | rfl | (simp; done) | (simp [*]; done)), H', ⟨by have := HK1.out; have := HK2.out; omega⟩, ⟨by (with_reducible repeat (first | refine blk_drewN ?_ _ | refine blk_drew ?_ | refine blk_alloc ?_ _)); exact BK381.out⟩, ⟨by repeat (first | (with_reducible first | exact HB.out | apply below_alloc | apply pw_below_drewN | apply below_drew1 | refine below_set ?_ GE381.out) | exact HB.out)⟩⟩
            · rw [if_neg c5] at H
              have c5b0 : decide (x5_2 < x4_1) = false := decide_eq_false c5
              clear c5
              have H' := Aside0.mk H
              clear H
              go_wp2
              go_roundg k2
              case measure => have := HK1.out; have := HK2.out; omega
              case rel => exact ⟨(wrap64 (x4_1 + 1)), (by first | rfl | (simp; done) | (simp [*]; done)), H', ⟨by have := HK1.out; have := HK2.out; omega⟩, ⟨by (with_reducible repeat (first | refine blk_drewN ?_ _ | refine blk_drew ?_ | refine blk_alloc ?_ _)); exact BK381.out⟩, ⟨by repeat (first | (with_reducible first | exact HB.out | apply below_alloc | apply pw_below_drewN | apply below_drew1 | refine below_set ?_ GE381.out) | exact HB.out)⟩⟩
      · rw [if_neg c3] at H
        have c3b0 : decide (x4_1 < (l0_2.length : Int)) = false := decide_eq_false c3
        clear c3
        simp only [Option.some.injEq, Prod.mk.injEq] at H
        obtain ⟨rfl, rfl⟩ := H
        have hcz12_0 : wr.cell? ⟨gb381, 0, none⟩ = some (.int .i64 a0_0) := (blk_cell BK381.out 0).trans rfl
        have hcz12_1 : wr.cell? ⟨gb381, 1, none⟩ = some (.int .i64 a0_1) := (blk_cell BK381.out 1).trans rfl
        have hcz12_2 : wr.cell? ⟨gb381, 2, none⟩ = some (.slice A0_2 l0_2.length c0_2) := (blk_cell BK381.out 2).trans rfl
        have hfz12_0 := blk_frozen BK381.out 0
        have hfz12_1 := blk_frozen BK381.out 1
        have hfz12_2 := blk_frozen BK381.out 2
        go_wp2
        go_ret2
        exact ⟨by first | rfl | (simp [errW_none, errW_some] <;> rfl) | (simp [*, errW_none, errW_some] <;> rfl), by repeat (first | (with_reducible first | exact HB.out | apply below_alloc | apply pw_below_drewN | apply below_drew1 | refine below_set ?_ GE381.out) | exact HB.out)⟩

end Go.Proofs.Ytcjdhajdoikojaa.Pr
end
section
-- PRINTED by print.py (a twelfth state) out of the translation. Not trusted: Lean checks it.
namespace Go.Proofs.Ytcjdhajdoikojaa.Pr
open Go.RowKit Go.Proofs.YtcjdhajdoikojaaW.PrintWords Go.Proofs.YtcjdhajdoikojaaW.PrintLast Go.Proofs.YtcjdhajdoikojaaW.PrintMore
attribute [local go_sem] max2_int min2_int max_two min_two
set_option linter.unusedVariables false
set_option linter.unusedSimpArgs false

/-! ### isobathref05_Sound: function 69 -/
def isobathref05_Sound.f (k : Nat) (a0_0 : Int) (a0_1 : Int) (l0_2 : List (S46)) : Option (Bool) := (isobathref05_contradiction.f k a0_0 a0_1 l0_2).bind fun bt384 => (some (decide (bt384.1 < 0)))
set_option maxHeartbeats 8000000 in
set_option maxRecDepth 100000 in
theorem isobathref05_Sound.calls (k : Nat) (a0_0 : Int) (a0_1 : Int) (A0_2 : Option Addr) (c0_2 : Nat) (l0_2 : List (S46)) (r : Bool) (w : World) (hr0_2 : Kd.C k46 w A0_2 l0_2.length l0_2) (hc0_2 : l0_2.length ≤ c0_2) (h : isobathref05_Sound.f k a0_0 a0_1 l0_2 = some r) :
    Calls Try.prog 69 #[.agg #[.int .i64 a0_0, .int .i64 a0_1, .slice A0_2 l0_2.length c0_2]] w fun e w' => e = .returned (.bool r) ∧ Below w.heap.size w w' := by
  have hu30 := Try.underlying30
  have HR0_2 := Aside0.mk hr0_2
  have HC0_2 := Aside0.mk hc0_2
  clear hr0_2 hc0_2
  have HB := Aside0.mk (Below.refl w.heap.size w)
  have H : ((isobathref05_contradiction.f k a0_0 a0_1 l0_2).bind fun bt384 => (some (decide (bt384.1 < 0)))) = some r := h
  clear h
  replace H := Option.bind_eq_some_iff.mp H
  obtain ⟨⟨t384, t385⟩, A20, H⟩ := H
  replace H : (some (decide (t384 < 0))) = some r := H
  have A2 := Aside0.mk A20
  clear A20
  obtain rfl := Option.some.inj H
  go_enter Try.func69, Try.ntmps69
  go_wp2_with (first | ((with_reducible refine gate_dst (N := 1) rfl ?_); refine box_event ?hg (N := 1) ?hd (cs := #[.int .i64 a0_0, .int .i64 a0_1, .slice A0_2 l0_2.length c0_2]) (t := 30) ?hr ?_; (case hd => rfl); (case hg => rfl); (case hr => first | (go_simp; done) | (go_simp; rfl)); intro gb383 hg w3 hbox hb; have n0_ := Aside0.mk (below_step (by repeat (first | (with_reducible first | exact HB.out | apply below_alloc | apply pw_below_drewN | apply below_drew1) | exact HB.out)) hb); have n1_ := Aside0.mk (hbox); have n2_ := Aside0.mk ((by rw [hg]; exact (below_size (by repeat (first | (with_reducible first | exact HB.out | apply below_alloc | apply pw_below_drewN | apply below_drew1) | exact HB.out))) : w.heap.size ≤ gb383)); have n3_ := Aside0.mk ((by rw [hg]; exact (below_size (by repeat (first | (with_reducible first | exact HB.out | apply below_alloc | apply pw_below_drewN | apply below_drew1) | exact HB.out))) : w.heap.size ≤ gb383)); clear HB; have HB := n0_; have BK383 := n1_; have GW383 := n2_; have GE383 := n3_; clear n0_ n1_ n2_ n3_; clear hb hbox hg; have hcz4_0 : w3.cell? ⟨gb383, 0, none⟩ = some (.int .i64 a0_0) := (blk_cell BK383.out 0).trans rfl; have hcz4_1 : w3.cell? ⟨gb383, 1, none⟩ = some (.int .i64 a0_1) := (blk_cell BK383.out 1).trans rfl; have hcz4_2 : w3.cell? ⟨gb383, 2, none⟩ = some (.slice A0_2 l0_2.length c0_2) := (blk_cell BK383.out 2).trans rfl; have hfz4_0 := blk_frozen BK383.out 0; have hfz4_1 := blk_frozen BK383.out 1; have hfz4_2 := blk_frozen BK383.out 2) | ((with_reducible refine gate_callee (f := 75) rfl ?_); refine goesL_ (some 7) rfl rfl Try.func75 (by kernel_rfl) rfl #[.agg #[.int .i64 a0_0, .int .i64 a0_1, .slice A0_2 l0_2.length c0_2]] rfl (by (try simp only [List.map_toArray, List.map_cons, List.map_nil]); first | done | rfl | (simp only [List.length_drop, List.length_take]; rfl)) ?_; (with_reducible refine (isobathref05_contradiction.calls k a0_0 a0_1 _ _ l0_2 t384 t385 _ ?side1 ?side2 A2.out).mono ?_); (case side1 => repeat (first | exact (Kd.C_below HR0_2.out HB.out) | (with_reducible refine Kd.C_alloc ?_ _) | (with_reducible refine Kd.C_drewN ?_ _) | (with_reducible refine Kd.C_drew ?_))); (case side2 => exact HC0_2.out); rintro e w5 ⟨rfl, hb⟩; refine ⟨_, rfl, ?_⟩; have n0_ := Aside0.mk (blk_below (g := gb383) (o := .cells #[.int .i64 a0_0, .int .i64 a0_1, .slice A0_2 l0_2.length c0_2] 30 (0, 0)) (by (with_reducible repeat (first | refine blk_drewN ?_ _ | refine blk_drew ?_ | refine blk_alloc ?_ _)); exact BK383.out) hb); have n1_ := Aside0.mk (below_step (by repeat (first | (with_reducible first | exact HB.out | apply below_alloc | apply pw_below_drewN | apply below_drew1 | refine below_set ?_ GE383.out) | exact HB.out)) hb); clear BK383; clear HB; have BK383 := n0_; have HB := n1_; clear n0_ n1_; (try clear hb); (try clear hb2); (try clear hk); (try clear hi)))
  go_ret
  exact ⟨by first | rfl | (simp [errW_none, errW_some] <;> rfl) | (simp [*, errW_none, errW_some] <;> rfl), by repeat (first | (with_reducible first | exact HB.out | apply below_alloc | apply pw_below_drewN | apply below_drew1 | refine below_set ?_ GE383.out) | exact HB.out)⟩

end Go.Proofs.Ytcjdhajdoikojaa.Pr
end
section
-- PRINTED by print.py (a twelfth state) out of the translation. Not trusted: Lean checks it.
namespace Go.Proofs.Ytcjdhajdoikojaa.Pr
open Go.RowKit Go.Proofs.YtcjdhajdoikojaaW.PrintWords Go.Proofs.YtcjdhajdoikojaaW.PrintLast Go.Proofs.YtcjdhajdoikojaaW.PrintMore
attribute [local go_sem] max2_int min2_int max_two min_two
set_option linter.unusedVariables false
set_option linter.unusedSimpArgs false

/-! ### isobathref05_CheckHouse: function 39 -/
mutual
def isobathref05_CheckHouse.j0 : Nat → List (S30) → Bool → Option (Int)
  | 0, _, _ => none
  | k + 1, x0, x13 => if x13 = true then (some 6) else (isobathref05_CheckHouse.l0 k x0 0)
def isobathref05_CheckHouse.l0 : Nat → List (S30) → Int → Option (Int)
  | 0, _, _ => none
  | k + 1, x0, x3 => if x3 < (x0.length : Int) then (if 0 ≤ x3 then ((isobathref05_CheckClock.f k ((rd_T30 x0 x3).f0) ((rd_T30 x0 x3).f1) ((rd_T30 x0 x3).f2)).bind fun t434 => (if t434 = 0 then (isobathref05_CheckHouse.l0 k x0 (wrap64 (x3 + 1))) else ((isobathref05_CheckClock.f k ((rd_T30 x0 x3).f0) ((rd_T30 x0 x3).f1) ((rd_T30 x0 x3).f2)).bind fun t436 => (some t436)))) else (none)) else (isobathref05_CheckHouse.l1 k x0 0)
def isobathref05_CheckHouse.l1 : Nat → List (S30) → Int → Option (Int)
  | 0, _, _ => none
  | k + 1, x0, x4 => if x4 < (x0.length : Int) then (if 0 ≤ x4 then (if ((rd_T30 x0 x4).f0) ≥ x4 then (some 2) else (isobathref05_CheckHouse.l1 k x0 (wrap64 (x4 + 1)))) else (none)) else (isobathref05_CheckHouse.l2 k x0 0)
def isobathref05_CheckHouse.l2 : Nat → List (S30) → Int → Option (Int)
  | 0, _, _ => none
  | k + 1, x0, x5 => if x5 < (x0.length : Int) then (if 0 ≤ x5 then ((isobathref05_Sound.f k ((rd_T30 x0 x5).f0) ((rd_T30 x0 x5).f1) ((rd_T30 x0 x5).f2)).bind fun t439 => (if t439 = true then (isobathref05_CheckHouse.l2 k x0 (wrap64 (x5 + 1))) else (some 5))) else (none)) else (some 0)
end
def isobathref05_CheckHouse.f (k : Nat) (l0 : List (S30)) : Option (Int) := if (l0.length : Int) < 1 then (isobathref05_CheckHouse.j0 k l0 true) else (isobathref05_CheckHouse.j0 k l0 (decide ((l0.length : Int) > 32)))
set_option maxHeartbeats 8000000 in
set_option maxRecDepth 100000 in
theorem isobathref05_CheckHouse.calls (k : Nat) (A0 : Option Addr) (c0 : Nat) (l0 : List (S30)) (r : Int) (w : World) (hr0 : Kd.C k30 w A0 l0.length l0) (hc0 : l0.length ≤ c0) (h : isobathref05_CheckHouse.f k l0 = some r) :
    Calls Try.prog 39 #[.slice A0 l0.length c0] w fun e w' => e = .returned (.int .i64 r) ∧ Below w.heap.size w w' := by
  have hu30 := Try.underlying30
  have HR0 := Aside0.mk hr0
  have HC0 := Aside0.mk hc0
  clear hr0 hc0
  have HB := Aside0.mk (Below.refl w.heap.size w)
  have H : (if (l0.length : Int) < 1 then (isobathref05_CheckHouse.j0 k l0 true) else (isobathref05_CheckHouse.j0 k l0 (decide ((l0.length : Int) > 32)))) = some r := h
  clear h
  have HC2 := Aside0.mk H
  clear H
  go_enter Try.func39, Try.ntmps39
  go_upto_region 1 with (fail)
  go_cut [13] (fun v13 wc => ∃ (kq : Nat) (x13_1 : Bool), v13 = .bool x13_1 ∧ Aside0 (isobathref05_CheckHouse.j0 kq l0 x13_1 = some r) ∧ Aside0 (kq ≤ k) ∧ Aside0 (Below w.heap.size w wc))
  case first =>
    have H := HC2.out
    clear HC2
    by_cases c3 : (l0.length : Int) < 1
    · rw [if_pos c3] at H
      have c3b0 : decide ((l0.length : Int) < 1) = true := decide_eq_true c3
      have c3b1 : decide (l0.length < 1) = true := decide_eq_true (by omega)
      clear c3
      (first | rw [c3b0] | (simp only [i64_w, i32_w]; rw [c3b0]) | skip)
      have H' := Aside0.mk H
      clear H
      go_wp2
      go_meet
      case rel => exact ⟨_, (true), (by first | rfl | (simp; done) | (simp [*]; done)), H', ⟨by first | omega | exact Nat.le_refl _⟩, ⟨by repeat (first | (with_reducible first | exact HB.out | apply below_alloc | apply pw_below_drewN | apply below_drew1) | exact HB.out)⟩⟩
    · rw [if_neg c3] at H
      have c3b0 : decide ((l0.length : Int) < 1) = false := decide_eq_false c3
      have c3b1 : decide (l0.length < 1) = false := decide_eq_false (by omega)
      clear c3
      (first | rw [c3b0] | (simp only [i64_w, i32_w]; rw [c3b0]) | skip)
      have H' := Aside0.mk H
      clear H
      go_wp2
      go_meet
      case rel => exact ⟨_, (decide ((l0.length : Int) > 32)), (by first | rfl | (simp; done) | (simp [*]; done)), H', ⟨by first | omega | exact Nat.le_refl _⟩, ⟨by repeat (first | (with_reducible first | exact HB.out | apply below_alloc | apply pw_below_drewN | apply below_drew1) | exact HB.out)⟩⟩
  case rest =>
    clear HC2
    try clear p2
    try clear c3
    try clear c3b0
    try clear c3b1
    obtain ⟨kq, x13_1, rfl, HA, HJ1, HB⟩ := hcut
    cases kq with
    | zero => exact absurd HA.out (by simp [isobathref05_CheckHouse.j0])
    | succ kj1 =>
      have H := HA.out
      clear HA
      simp only [isobathref05_CheckHouse.j0] at H
      by_cases c4 : x13_1 = true
      · subst c4
        have H1 : (some 6) = some r := by rw [if_pos rfl] at H; exact H
        clear H
        have H := H1
        clear H1
        obtain rfl := Option.some.inj H
        go_wp2
        go_ret
        exact ⟨by first | rfl | (simp [errW_none, errW_some] <;> rfl) | (simp [*, errW_none, errW_some] <;> rfl), by repeat (first | (with_reducible first | exact HB.out | apply below_alloc | apply pw_below_drewN | apply below_drew1) | exact HB.out)⟩
      · replace c4 := Bool.eq_false_iff.mpr c4
        subst c4
        have H1 : (isobathref05_CheckHouse.l0 kj1 l0 0) = some r := by rw [if_neg (show ¬ (false = true) by decide)] at H; exact H
        clear H
        have H := H1
        clear H1
        have H' := Aside0.mk H
        clear H
        go_wp2
        go_loopg [3] kj1 (fun kq v3 w' => ∃ (x3_2 : Int), v3 = .int .i64 x3_2 ∧ Aside0 (isobathref05_CheckHouse.l0 kq l0 x3_2 = some r) ∧ Aside0 (kq ≤ kj1) ∧ Aside0 (Below w.heap.size w w'))
        case atStart => exact ⟨(0), (by first | rfl | (simp; done) | (simp [*]; done)), H', ⟨Nat.le_refl _⟩, ⟨by repeat (first | (with_reducible first | exact HB.out | apply below_alloc | apply pw_below_drewN | apply below_drew1) | exact HB.out)⟩⟩
        case round =>
          clear H'
          try clear p2
          try clear c3
          try clear c3b0
          try clear c3b1
          try clear c4
          try clear p2
          obtain ⟨x3_2, rfl, HA, HK2, HB⟩ := hrel
          cases gk with
          | zero => exact absurd HA.out (by simp [isobathref05_CheckHouse.l0])
          | succ k2 =>
            have H := HA.out
            clear HA
            simp only [isobathref05_CheckHouse.l0] at H
            by_cases c5 : x3_2 < (l0.length : Int)
            · rw [if_pos c5] at H
              have c5b0 : decide (x3_2 < (l0.length : Int)) = true := decide_eq_true c5
              clear c5
              by_cases c6 : 0 ≤ x3_2
              · rw [if_pos c6] at H
                have c6b0 : decide (0 ≤ x3_2) = true := decide_eq_true c6
                clear c6
                replace H := Option.bind_eq_some_iff.mp H
                obtain ⟨t434, A70, H⟩ := H
                replace H : (if t434 = 0 then (isobathref05_CheckHouse.l0 k2 l0 (wrap64 (x3_2 + 1))) else ((isobathref05_CheckClock.f k2 ((rd_T30 l0 x3_2).f0) ((rd_T30 l0 x3_2).f1) ((rd_T30 l0 x3_2).f2)).bind fun t436 => (some t436))) = some r := H
                have A7 := Aside0.mk A70
                clear A70
                by_cases c8 : t434 = 0
                · rw [if_pos c8] at H
                  have c8b0 : (t434 == 0) = true := beq_iff_eq.mpr c8
                  have c8b1 : (t434 != 0) = false := bne_eq_false_iff_eq.mpr c8
                  clear c8
                  have H' := Aside0.mk H
                  clear H
                  have p433 : 0 ≤ (x3_2 : Int) := of_decide_eq_true (by first | (with_reducible assumption) | assumption)
                  have q433 : x3_2 < (l0.length : Int) := of_decide_eq_true (by first | (with_reducible assumption) | assumption)
                  obtain ⟨ad433, A433_2, c433_2, e433, hx433_0, hx433_1, hx433_2, hl433_2, hi433_2⟩ := at_T30 HR0.out x3_2 p433 q433
                  cases e433
                  replace hx433_0 := (HB.out.cell (World.block_lt_of_cell? w _ hx433_0)).trans hx433_0
                  replace hx433_1 := (HB.out.cell (World.block_lt_of_cell? w _ hx433_1)).trans hx433_1
                  replace hx433_2 := (HB.out.cell (World.block_lt_of_cell? w _ hx433_2)).trans hx433_2
                  have HR433_2 := Aside0.mk hi433_2
                  have HC433_2 := Aside0.mk hl433_2
                  clear hi433_2 hl433_2
                  replace p433 := eq_true p433
                  replace q433 := eq_true q433
                  go_wp2_with (first | ((with_reducible refine gate_callee (f := 33) rfl ?_); refine goesL_ (some 24) rfl rfl Try.func33 (by kernel_rfl) rfl #[.agg #[.int .i64 ((rd_T30 l0 x3_2).f0), .int .i64 ((rd_T30 l0 x3_2).f1), .slice A433_2 ((rd_T30 l0 x3_2).f2).length c433_2]] rfl (by (try simp only [List.map_toArray, List.map_cons, List.map_nil]); first | done | rfl | (simp only [List.length_drop, List.length_take]; rfl)) ?_; (with_reducible refine (isobathref05_CheckClock.calls k2 ((rd_T30 l0 x3_2).f0) ((rd_T30 l0 x3_2).f1) _ _ ((rd_T30 l0 x3_2).f2) t434 _ ?side1 ?side2 A7.out).mono ?_); (case side1 => repeat (first | exact (Kd.C_below HR433_2.out HB.out) | (with_reducible refine Kd.C_alloc ?_ _) | (with_reducible refine Kd.C_drewN ?_ _) | (with_reducible refine Kd.C_drew ?_))); (case side2 => exact HC433_2.out); rintro e w9 ⟨rfl, hb⟩; refine ⟨_, rfl, ?_⟩; have n0_ := Aside0.mk (below_step (by repeat (first | (with_reducible first | exact HB.out | apply below_alloc | apply pw_below_drewN | apply below_drew1) | exact HB.out)) hb); clear HB; have HB := n0_; clear n0_; (try clear hb); (try clear hb2); (try clear hk); (try clear hi)))
                  go_roundg k2
                  case measure => have := HJ1.out; have := HK2.out; omega
                  case rel => exact ⟨(wrap64 (x3_2 + 1)), (by first | rfl | (simp; done) | (simp [*]; done)), H', ⟨by have := HJ1.out; have := HK2.out; omega⟩, ⟨by repeat (first | (with_reducible first | exact HB.out | apply below_alloc | apply pw_below_drewN | apply below_drew1) | exact HB.out)⟩⟩
                · rw [if_neg c8] at H
                  have c8b0 : (t434 == 0) = false := beq_eq_false_iff_ne.mpr c8
                  have c8b1 : (t434 != 0) = true := bne_iff_ne.mpr c8
                  replace H := Option.bind_eq_some_iff.mp H
                  obtain ⟨t436, A100, H⟩ := H
                  replace H : (some t436) = some r := H
                  have A10 := Aside0.mk A100
                  clear A100
                  obtain rfl := Option.some.inj H
                  have p433 : 0 ≤ (x3_2 : Int) := of_decide_eq_true (by first | (with_reducible assumption) | assumption)
                  have q433 : x3_2 < (l0.length : Int) := of_decide_eq_true (by first | (with_reducible assumption) | assumption)
                  obtain ⟨ad433, A433_2, c433_2, e433, hx433_0, hx433_1, hx433_2, hl433_2, hi433_2⟩ := at_T30 HR0.out x3_2 p433 q433
                  cases e433
                  replace hx433_0 := (HB.out.cell (World.block_lt_of_cell? w _ hx433_0)).trans hx433_0
                  replace hx433_1 := (HB.out.cell (World.block_lt_of_cell? w _ hx433_1)).trans hx433_1
                  replace hx433_2 := (HB.out.cell (World.block_lt_of_cell? w _ hx433_2)).trans hx433_2
                  have HR433_2 := Aside0.mk hi433_2
                  have HC433_2 := Aside0.mk hl433_2
                  clear hi433_2 hl433_2
                  replace p433 := eq_true p433
                  replace q433 := eq_true q433
                  go_wp2_with (first | ((with_reducible refine gate_callee (f := 33) rfl ?_); refine goesL_ (some 24) rfl rfl Try.func33 (by kernel_rfl) rfl #[.agg #[.int .i64 ((rd_T30 l0 x3_2).f0), .int .i64 ((rd_T30 l0 x3_2).f1), .slice A433_2 ((rd_T30 l0 x3_2).f2).length c433_2]] rfl (by (try simp only [List.map_toArray, List.map_cons, List.map_nil]); first | done | rfl | (simp only [List.length_drop, List.length_take]; rfl)) ?_; (with_reducible refine (isobathref05_CheckClock.calls k2 ((rd_T30 l0 x3_2).f0) ((rd_T30 l0 x3_2).f1) _ _ ((rd_T30 l0 x3_2).f2) t434 _ ?side1 ?side2 A7.out).mono ?_); (case side1 => repeat (first | exact (Kd.C_below HR433_2.out HB.out) | (with_reducible refine Kd.C_alloc ?_ _) | (with_reducible refine Kd.C_drewN ?_ _) | (with_reducible refine Kd.C_drew ?_))); (case side2 => exact HC433_2.out); rintro e w11 ⟨rfl, hb⟩; refine ⟨_, rfl, ?_⟩; have n0_ := Aside0.mk (below_step (by repeat (first | (with_reducible first | exact HB.out | apply below_alloc | apply pw_below_drewN | apply below_drew1) | exact HB.out)) hb); clear HB; have HB := n0_; clear n0_; (try clear hb); (try clear hb2); (try clear hk); (try clear hi); have p435 : 0 ≤ (x3_2 : Int) := of_decide_eq_true (by first | (with_reducible assumption) | assumption); have q435 : x3_2 < (l0.length : Int) := of_decide_eq_true (by first | (with_reducible assumption) | assumption); obtain ⟨ad435, A435_2, c435_2, e435, hx435_0, hx435_1, hx435_2, hl435_2, hi435_2⟩ := at_T30 HR0.out x3_2 p435 q435; obtain rfl : ad433 = ad435 := (by injection e435); replace hx435_0 := (HB.out.cell (World.block_lt_of_cell? w _ hx435_0)).trans hx435_0; replace hx435_1 := (HB.out.cell (World.block_lt_of_cell? w _ hx435_1)).trans hx435_1; replace hx435_2 := (HB.out.cell (World.block_lt_of_cell? w _ hx435_2)).trans hx435_2; have HR435_2 := Aside0.mk hi435_2; have HC435_2 := Aside0.mk hl435_2; clear hi435_2 hl435_2; replace p435 := eq_true p435; replace q435 := eq_true q435) | ((with_reducible refine gate_callee (f := 33) rfl ?_); refine goesL_ (some 30) rfl rfl Try.func33 (by kernel_rfl) rfl #[.agg #[.int .i64 ((rd_T30 l0 x3_2).f0), .int .i64 ((rd_T30 l0 x3_2).f1), .slice A435_2 ((rd_T30 l0 x3_2).f2).length c435_2]] rfl (by (try simp only [List.map_toArray, List.map_cons, List.map_nil]); first | done | rfl | (simp only [List.length_drop, List.length_take]; rfl)) ?_; (with_reducible refine (isobathref05_CheckClock.calls k2 ((rd_T30 l0 x3_2).f0) ((rd_T30 l0 x3_2).f1) _ _ ((rd_T30 l0 x3_2).f2) t436 _ ?side1 ?side2 A10.out).mono ?_); (case side1 => repeat (first | exact (Kd.C_below HR435_2.out HB.out) | (with_reducible refine Kd.C_alloc ?_ _) | (with_reducible refine Kd.C_drewN ?_ _) | (with_reducible refine Kd.C_drew ?_))); (case side2 => exact HC435_2.out); rintro e w12 ⟨rfl, hb⟩; refine ⟨_, rfl, ?_⟩; have n0_ := Aside0.mk (below_step (by repeat (first | (with_reducible first | exact HB.out | apply below_alloc | apply pw_below_drewN | apply below_drew1) | exact HB.out)) hb); clear HB; have HB := n0_; clear n0_; (try clear hb); (try clear hb2); (try clear hk); (try clear hi)))
                  go_ret
                  exact ⟨by first | rfl | (simp [errW_none, errW_some] <;> rfl) | (simp [*, errW_none, errW_some] <;> rfl), by repeat (first | (with_reducible first | exact HB.out | apply below_alloc | apply pw_below_drewN | apply below_drew1) | exact HB.out)⟩
              · rw [if_neg c6] at H
                exact absurd H (by simp)
            · rw [if_neg c5] at H
              have c5b0 : decide (x3_2 < (l0.length : Int)) = false := decide_eq_false c5
              clear c5
              have H' := Aside0.mk H
              clear H
              go_wp2
              go_loopg [4] k2 (fun kq v4 w' => ∃ (x4_3 : Int), v4 = .int .i64 x4_3 ∧ Aside0 (isobathref05_CheckHouse.l1 kq l0 x4_3 = some r) ∧ Aside0 (kq ≤ k2) ∧ Aside0 (Below w.heap.size w w'))
              case atStart => exact ⟨(0), (by first | rfl | (simp; done) | (simp [*]; done)), H', ⟨Nat.le_refl _⟩, ⟨by repeat (first | (with_reducible first | exact HB.out | apply below_alloc | apply pw_below_drewN | apply below_drew1) | exact HB.out)⟩⟩
              case round =>
                clear H'
                try clear p2
                try clear c3
                try clear c3b0
                try clear c3b1
                try clear c4
                try clear p4
                try clear q4
                try clear hx4
                try clear c5
                try clear c5b0
                try clear c6
                try clear c6b0
                try clear p6
                try clear c8
                try clear c8b0
                try clear c8b1
                try clear hx433_0
                try clear hx433_1
                try clear hx433_2
                try clear hx435_0
                try clear hx435_1
                try clear hx435_2
                try clear p2
                try clear p433
                try clear p435
                try clear q433
                try clear q435
                obtain ⟨x4_3, rfl, HA, HK3, HB⟩ := hrel
                cases gk with
                | zero => exact absurd HA.out (by simp [isobathref05_CheckHouse.l1])
                | succ k3 =>
                  have H := HA.out
                  clear HA
                  simp only [isobathref05_CheckHouse.l1] at H
                  by_cases c13 : x4_3 < (l0.length : Int)
                  · rw [if_pos c13] at H
                    have c13b0 : decide (x4_3 < (l0.length : Int)) = true := decide_eq_true c13
                    clear c13
                    by_cases c14 : 0 ≤ x4_3
                    · rw [if_pos c14] at H
                      have c14b0 : decide (0 ≤ x4_3) = true := decide_eq_true c14
                      clear c14
                      by_cases c15 : ((rd_T30 l0 x4_3).f0) ≥ x4_3
                      · rw [if_pos c15] at H
                        have c15b0 : decide (x4_3 ≤ ((rd_T30 l0 x4_3).f0)) = true := decide_eq_true c15
                        clear c15
                        obtain rfl := Option.some.inj H
                        have p437 : 0 ≤ (x4_3 : Int) := of_decide_eq_true (by first | (with_reducible assumption) | assumption)
                        have q437 : x4_3 < (l0.length : Int) := of_decide_eq_true (by first | (with_reducible assumption) | assumption)
                        obtain ⟨ad437, A437_2, c437_2, e437, hx437_0, hx437_1, hx437_2, hl437_2, hi437_2⟩ := at_T30 HR0.out x4_3 p437 q437
                        cases e437
                        replace hx437_0 := (HB.out.cell (World.block_lt_of_cell? w _ hx437_0)).trans hx437_0
                        replace hx437_1 := (HB.out.cell (World.block_lt_of_cell? w _ hx437_1)).trans hx437_1
                        replace hx437_2 := (HB.out.cell (World.block_lt_of_cell? w _ hx437_2)).trans hx437_2
                        have HR437_2 := Aside0.mk hi437_2
                        have HC437_2 := Aside0.mk hl437_2
                        clear hi437_2 hl437_2
                        replace p437 := eq_true p437
                        replace q437 := eq_true q437
                        go_wp2
                        go_ret
                        exact ⟨by first | rfl | (simp [errW_none, errW_some] <;> rfl) | (simp [*, errW_none, errW_some] <;> rfl), by repeat (first | (with_reducible first | exact HB.out | apply below_alloc | apply pw_below_drewN | apply below_drew1) | exact HB.out)⟩
                      · rw [if_neg c15] at H
                        have c15b0 : decide (x4_3 ≤ ((rd_T30 l0 x4_3).f0)) = false := decide_eq_false c15
                        clear c15
                        have H' := Aside0.mk H
                        clear H
                        have p437 : 0 ≤ (x4_3 : Int) := of_decide_eq_true (by first | (with_reducible assumption) | assumption)
                        have q437 : x4_3 < (l0.length : Int) := of_decide_eq_true (by first | (with_reducible assumption) | assumption)
                        obtain ⟨ad437, A437_2, c437_2, e437, hx437_0, hx437_1, hx437_2, hl437_2, hi437_2⟩ := at_T30 HR0.out x4_3 p437 q437
                        cases e437
                        replace hx437_0 := (HB.out.cell (World.block_lt_of_cell? w _ hx437_0)).trans hx437_0
                        replace hx437_1 := (HB.out.cell (World.block_lt_of_cell? w _ hx437_1)).trans hx437_1
                        replace hx437_2 := (HB.out.cell (World.block_lt_of_cell? w _ hx437_2)).trans hx437_2
                        have HR437_2 := Aside0.mk hi437_2
                        have HC437_2 := Aside0.mk hl437_2
                        clear hi437_2 hl437_2
                        replace p437 := eq_true p437
                        replace q437 := eq_true q437
                        go_wp2
                        go_roundg k3
                        case measure => have := HJ1.out; have := HK2.out; have := HK3.out; omega
                        case rel => exact ⟨(wrap64 (x4_3 + 1)), (by first | rfl | (simp; done) | (simp [*]; done)), H', ⟨by have := HJ1.out; have := HK2.out; have := HK3.out; omega⟩, ⟨by repeat (first | (with_reducible first | exact HB.out | apply below_alloc | apply pw_below_drewN | apply below_drew1) | exact HB.out)⟩⟩
                    · rw [if_neg c14] at H
                      exact absurd H (by simp)
                  · rw [if_neg c13] at H
                    have c13b0 : decide (x4_3 < (l0.length : Int)) = false := decide_eq_false c13
                    clear c13
                    have H' := Aside0.mk H
                    clear H
                    go_wp2
                    go_loopg [5] k3 (fun kq v5 w' => ∃ (x5_4 : Int), v5 = .int .i64 x5_4 ∧ Aside0 (isobathref05_CheckHouse.l2 kq l0 x5_4 = some r) ∧ Aside0 (kq ≤ k3) ∧ Aside0 (Below w.heap.size w w'))
                    case atStart => exact ⟨(0), (by first | rfl | (simp; done) | (simp [*]; done)), H', ⟨Nat.le_refl _⟩, ⟨by repeat (first | (with_reducible first | exact HB.out | apply below_alloc | apply pw_below_drewN | apply below_drew1) | exact HB.out)⟩⟩
                    case round =>
                      clear H'
                      try clear c1
                      try clear p2
                      try clear c3
                      try clear c3b0
                      try clear c3b1
                      try clear c4
                      try clear p4
                      try clear q4
                      try clear hx4
                      try clear c5
                      try clear c5b0
                      try clear c6
                      try clear c6b0
                      try clear p6
                      try clear c8
                      try clear c8b0
                      try clear c8b1
                      try clear c13
                      try clear c13b0
                      try clear c14
                      try clear c14b0
                      try clear c15
                      try clear c15b0
                      try clear hx433_0
                      try clear hx433_1
                      try clear hx433_2
                      try clear hx435_0
                      try clear hx435_1
                      try clear hx435_2
                      try clear hx437_0
                      try clear hx437_1
                      try clear hx437_2
                      try clear p2
                      try clear p4
                      try clear p433
                      try clear p435
                      try clear p437
                      try clear p6
                      try clear q4
                      try clear q433
                      try clear q435
                      try clear q437
                      obtain ⟨x5_4, rfl, HA, HK4, HB⟩ := hrel
                      cases gk with
                      | zero => exact absurd HA.out (by simp [isobathref05_CheckHouse.l2])
                      | succ k4 =>
                        have H := HA.out
                        clear HA
                        simp only [isobathref05_CheckHouse.l2] at H
                        by_cases c16 : x5_4 < (l0.length : Int)
                        · rw [if_pos c16] at H
                          have c16b0 : decide (x5_4 < (l0.length : Int)) = true := decide_eq_true c16
                          clear c16
                          by_cases c17 : 0 ≤ x5_4
                          · rw [if_pos c17] at H
                            have c17b0 : decide (0 ≤ x5_4) = true := decide_eq_true c17
                            clear c17
                            replace H := Option.bind_eq_some_iff.mp H
                            obtain ⟨t439, A180, H⟩ := H
                            replace H : (if t439 = true then (isobathref05_CheckHouse.l2 k4 l0 (wrap64 (x5_4 + 1))) else (some 5)) = some r := H
                            have A18 := Aside0.mk A180
                            clear A180
                            by_cases c19 : t439 = true
                            · subst c19
                              have H1 : (isobathref05_CheckHouse.l2 k4 l0 (wrap64 (x5_4 + 1))) = some r := by rw [if_pos rfl] at H; exact H
                              clear H
                              have H := H1
                              clear H1
                              have H' := Aside0.mk H
                              clear H
                              have p438 : 0 ≤ (x5_4 : Int) := of_decide_eq_true (by first | (with_reducible assumption) | assumption)
                              have q438 : x5_4 < (l0.length : Int) := of_decide_eq_true (by first | (with_reducible assumption) | assumption)
                              obtain ⟨ad438, A438_2, c438_2, e438, hx438_0, hx438_1, hx438_2, hl438_2, hi438_2⟩ := at_T30 HR0.out x5_4 p438 q438
                              cases e438
                              replace hx438_0 := (HB.out.cell (World.block_lt_of_cell? w _ hx438_0)).trans hx438_0
                              replace hx438_1 := (HB.out.cell (World.block_lt_of_cell? w _ hx438_1)).trans hx438_1
                              replace hx438_2 := (HB.out.cell (World.block_lt_of_cell? w _ hx438_2)).trans hx438_2
                              have HR438_2 := Aside0.mk hi438_2
                              have HC438_2 := Aside0.mk hl438_2
                              clear hi438_2 hl438_2
                              replace p438 := eq_true p438
                              replace q438 := eq_true q438
                              go_wp2_with (first | ((with_reducible refine gate_callee (f := 69) rfl ?_); refine goesL_ (some 54) rfl rfl Try.func69 (by kernel_rfl) rfl #[.agg #[.int .i64 ((rd_T30 l0 x5_4).f0), .int .i64 ((rd_T30 l0 x5_4).f1), .slice A438_2 ((rd_T30 l0 x5_4).f2).length c438_2]] rfl (by (try simp only [List.map_toArray, List.map_cons, List.map_nil]); first | done | rfl | (simp only [List.length_drop, List.length_take]; rfl)) ?_; (with_reducible refine (isobathref05_Sound.calls k4 ((rd_T30 l0 x5_4).f0) ((rd_T30 l0 x5_4).f1) _ _ ((rd_T30 l0 x5_4).f2) true _ ?side1 ?side2 A18.out).mono ?_); (case side1 => repeat (first | exact (Kd.C_below HR438_2.out HB.out) | (with_reducible refine Kd.C_alloc ?_ _) | (with_reducible refine Kd.C_drewN ?_ _) | (with_reducible refine Kd.C_drew ?_))); (case side2 => exact HC438_2.out); rintro e w20 ⟨rfl, hb⟩; refine ⟨_, rfl, ?_⟩; have n0_ := Aside0.mk (below_step (by repeat (first | (with_reducible first | exact HB.out | apply below_alloc | apply pw_below_drewN | apply below_drew1) | exact HB.out)) hb); clear HB; have HB := n0_; clear n0_; (try clear hb); (try clear hb2); (try clear hk); (try clear hi)))
                              go_roundg k4
                              case measure => have := HJ1.out; have := HK2.out; have := HK3.out; have := HK4.out; omega
                              case rel => exact ⟨(wrap64 (x5_4 + 1)), (by first | rfl | (simp; done) | (simp [*]; done)), H', ⟨by have := HJ1.out; have := HK2.out; have := HK3.out; have := HK4.out; omega⟩, ⟨by repeat (first | (with_reducible first | exact HB.out | apply below_alloc | apply pw_below_drewN | apply below_drew1) | exact HB.out)⟩⟩
                            · replace c19 := Bool.eq_false_iff.mpr c19
                              subst c19
                              have H1 : (some 5) = some r := by rw [if_neg (show ¬ (false = true) by decide)] at H; exact H
                              clear H
                              have H := H1
                              clear H1
                              obtain rfl := Option.some.inj H
                              have p438 : 0 ≤ (x5_4 : Int) := of_decide_eq_true (by first | (with_reducible assumption) | assumption)
                              have q438 : x5_4 < (l0.length : Int) := of_decide_eq_true (by first | (with_reducible assumption) | assumption)
                              obtain ⟨ad438, A438_2, c438_2, e438, hx438_0, hx438_1, hx438_2, hl438_2, hi438_2⟩ := at_T30 HR0.out x5_4 p438 q438
                              cases e438
                              replace hx438_0 := (HB.out.cell (World.block_lt_of_cell? w _ hx438_0)).trans hx438_0
                              replace hx438_1 := (HB.out.cell (World.block_lt_of_cell? w _ hx438_1)).trans hx438_1
                              replace hx438_2 := (HB.out.cell (World.block_lt_of_cell? w _ hx438_2)).trans hx438_2
                              have HR438_2 := Aside0.mk hi438_2
                              have HC438_2 := Aside0.mk hl438_2
                              clear hi438_2 hl438_2
                              replace p438 := eq_true p438
                              replace q438 := eq_true q438
                              go_wp2_with (first | ((with_reducible refine gate_callee (f := 69) rfl ?_); refine goesL_ (some 54) rfl rfl Try.func69 (by kernel_rfl) rfl #[.agg #[.int .i64 ((rd_T30 l0 x5_4).f0), .int .i64 ((rd_T30 l0 x5_4).f1), .slice A438_2 ((rd_T30 l0 x5_4).f2).length c438_2]] rfl (by (try simp only [List.map_toArray, List.map_cons, List.map_nil]); first | done | rfl | (simp only [List.length_drop, List.length_take]; rfl)) ?_; (with_reducible refine (isobathref05_Sound.calls k4 ((rd_T30 l0 x5_4).f0) ((rd_T30 l0 x5_4).f1) _ _ ((rd_T30 l0 x5_4).f2) false _ ?side1 ?side2 A18.out).mono ?_); (case side1 => repeat (first | exact (Kd.C_below HR438_2.out HB.out) | (with_reducible refine Kd.C_alloc ?_ _) | (with_reducible refine Kd.C_drewN ?_ _) | (with_reducible refine Kd.C_drew ?_))); (case side2 => exact HC438_2.out); rintro e w21 ⟨rfl, hb⟩; refine ⟨_, rfl, ?_⟩; have n0_ := Aside0.mk (below_step (by repeat (first | (with_reducible first | exact HB.out | apply below_alloc | apply pw_below_drewN | apply below_drew1) | exact HB.out)) hb); clear HB; have HB := n0_; clear n0_; (try clear hb); (try clear hb2); (try clear hk); (try clear hi)))
                              go_ret
                              exact ⟨by first | rfl | (simp [errW_none, errW_some] <;> rfl) | (simp [*, errW_none, errW_some] <;> rfl), by repeat (first | (with_reducible first | exact HB.out | apply below_alloc | apply pw_below_drewN | apply below_drew1) | exact HB.out)⟩
                          · rw [if_neg c17] at H
                            exact absurd H (by simp)
                        · rw [if_neg c16] at H
                          have c16b0 : decide (x5_4 < (l0.length : Int)) = false := decide_eq_false c16
                          clear c16
                          obtain rfl := Option.some.inj H
                          go_wp2
                          go_ret
                          exact ⟨by first | rfl | (simp [errW_none, errW_some] <;> rfl) | (simp [*, errW_none, errW_some] <;> rfl), by repeat (first | (with_reducible first | exact HB.out | apply below_alloc | apply pw_below_drewN | apply below_drew1) | exact HB.out)⟩

end Go.Proofs.Ytcjdhajdoikojaa.Pr
end
