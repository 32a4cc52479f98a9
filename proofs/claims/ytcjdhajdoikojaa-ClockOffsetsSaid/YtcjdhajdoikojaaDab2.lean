/- Part 2 of the ground of ClockOffsets, ClockPairs: what the functions compute. No condition. -/
import Derived.Test.YtcjdhajdoikojaaDaa3
import Derived.Test.YtcjdhajdoikojaaDab1
import Derived.Test.YtcjdhajdoikojaaDaa1
import Derived.Test.YtcjdhajdoikojaaDaa4
section
/- Whether two exchanges contradict each other, as the document's answer computes it. -/
namespace Go.Proofs.Ytcjdhajdoikojaa.Clk
open Go.RowKit Go.Shelf Go.Proofs.YtcjdhajdoikojaaW.PrintWords Go.Proofs.YtcjdhajdoikojaaW.PrintLast Go.Proofs.YtcjdhajdoikojaaW.PrintMore Go.Proofs.Ytcjdhajdoikojaa.Pr Go.Proofs.YtcjdhajdoikojaaW.Round
set_option linter.unusedVariables false
set_option linter.unusedSimpArgs false

def downR (a : Int) : Int := if Int.tmod a 1000000000 < 0 then wrap64 (wrap64 (Int.tdiv a 1000000000) - 1) else wrap64 (Int.tdiv a 1000000000)
theorem down_some (k : Nat) (a : Int) : isobathref01_Down.f (k + 1) a 1000000000 = some (downR a) := by
  rw [isobathref01_Down.f, if_neg (by decide), if_neg (by decide)]
  unfold downR
  split <;> rfl
def growR (rate d : Int) : Int := (isobathref05_Growth.f 3 rate d).getD 0
theorem growR_some (k : Nat) (rate d : Int) : isobathref05_Growth.f (k + 1) rate d = some (growR rate d) := by
  unfold growR isobathref05_Growth.f isobathref01_Up.f
  rw [down_some, down_some]
  rfl
def offR (x : S46) (rate : Int) : Int × Int := (isobathref05_offset.f 3 x.f0 x.f1 x.f2 x.f3 x.f4.f0 x.f4.f1 x.f5.f0 x.f5.f1 rate).getD (0, 0)
theorem offR_some (k : Nat) (x : S46) (rate : Int) : isobathref05_offset.f (k + 1) x.f0 x.f1 x.f2 x.f3 x.f4.f0 x.f4.f1 x.f5.f0 x.f5.f1 rate = some (offR x rate) := by
  unfold offR isobathref05_offset.f
  rw [growR_some, growR_some]
  rfl
theorem offR_any (x : S46) (rate : Int) (w : World) : Calls Try.prog 67 #[.agg #[.int .i64 x.f0, .int .i64 x.f1, .int .i64 x.f2, .int .i64 x.f3, .int .i64 x.f4.f0, .int .i64 x.f4.f1, .int .i64 x.f5.f0, .int .i64 x.f5.f1], .int .i64 rate] w fun e w' => e = .returned (.agg #[.int .i64 (offR x rate).1, .int .i64 (offR x rate).2]) ∧ Below w.heap.size w w' :=
  isobathref05_offset.calls 1 _ _ _ _ _ _ _ _ _ _ _ w (offR_some 0 x rate)
theorem growR_any (rate d : Int) (w : World) : Calls Try.prog 24 #[.int .i64 rate, .int .i64 d] w fun e w' => e = .returned (.int .i64 (growR rate d)) ∧ Below w.heap.size w w' := isobathref05_Growth.calls 1 _ _ _ w (growR_some 0 _ _)
theorem grownR_any (a b g : Int) (w : World) : Calls Try.prog 95 #[.agg #[.int .i64 a, .int .i64 b], .int .i64 g] w fun e w' => e = .returned (.agg #[.int .i64 (wrap64 (a - g)), .int .i64 (wrap64 (b + g))]) ∧ Below w.heap.size w w' := isobathref05_grown.calls _ _ _ _ _ w rfl
theorem meetR_any (a b c d : Int) (w : World) : Calls Try.prog 86 #[.agg #[.int .i64 a, .int .i64 b], .agg #[.int .i64 c, .int .i64 d]] w fun e w' => e = .returned (.agg #[.int .i64 (mx a c), .int .i64 (mn b d)]) ∧ Below w.heap.size w w' := isobathref05_meet.calls _ _ _ _ _ _ w rfl
/-- Do two exchanges contradict each other? -/
def conR (rate : Int) (x y : S46) : Bool :=
  decide (mx (wrap64 ((offR x rate).1 - growR rate (wrap64 (x.f3 - y.f3)))) (offR y rate).1 > mn (wrap64 ((offR x rate).2 + growR rate (wrap64 (x.f3 - y.f3)))) (offR y rate).2)

set_option maxRecDepth 100000 in
set_option maxHeartbeats 8000000 in
theorem conR_any (par rate : Int) (A : Option Addr) (c : Nat) (xs : List S46) (i k : Int) (h0 : 0 ≤ i) (h1 : i < (xs.length : Int)) (h2 : 0 ≤ k) (h3 : k < (xs.length : Int)) (w : World) (hC : Kd.C k46 w A xs.length xs) (hc : xs.length ≤ c) :
    Calls Try.prog 77 #[.agg #[.int .i64 par, .int .i64 rate, .slice A xs.length c], .int .i64 i, .int .i64 k] w fun e w' => e = .returned (.bool (conR rate (rd_T46 xs i) (rd_T46 xs k))) ∧ Below w.heap.size w w' := by
  have hu35 := Try.underlying35
  have hu46 := Try.underlying46
  have hu30 := Try.underlying30
  obtain ⟨ad, rfl, hx0, hx1, hx2, hx3, hx4, hx5, hx6, hx7⟩ := at_T46 hC i h0 h1
  obtain ⟨ad_, e_, hy0, hy1, hy2, hy3, hy4, hy5, hy6, hy7⟩ := at_T46 hC k h2 h3
  cases e_
  generalize rd_T46 xs i = Xi at *
  generalize rd_T46 xs k = Xk at *
  have HC : Hid (conR rate Xi Xk = decide (mx (wrap64 ((offR Xi rate).1 - growR rate (wrap64 (Xi.f3 - Xk.f3)))) (offR Xk rate).1 > mn (wrap64 ((offR Xi rate).2 + growR rate (wrap64 (Xi.f3 - Xk.f3)))) (offR Xk rate).2)) := Lib.hid rfl
  replace h0 := eq_true h0
  replace h1 := eq_true h1
  replace h2 := eq_true h2
  replace h3 := eq_true h3
  clear hc
  go_enter Try.func77, Try.ntmps77
  go_wp2
  have m3 : Blk (w.alloc (.cells #[.int .i64 par, .int .i64 rate, .slice (some ad) xs.length c] 30)) (w.heap.size) #[.int .i64 par, .int .i64 rate, .slice (some ad) xs.length c] 30 := (by have h_ := blk_new w (.cells #[.int .i64 par, .int .i64 rate, .slice (some ad) xs.length c] 30); first | exact h_ | (simp only [World.size_alloc] at h_; exact h_))
  have mB : Below w.heap.size w (w.alloc (.cells #[.int .i64 par, .int .i64 rate, .slice (some ad) xs.length c] 30)) := (below_alloc (Below.refl w.heap.size w) _)
  have hsz_ : w.heap.size ≤ w.heap.size := Nat.le_refl _
  generalize hW_ : (w.alloc (.cells #[.int .i64 par, .int .i64 rate, .slice (some ad) xs.length c] 30)) = W1 at m3 mB ⊢
  clear hW_
  generalize hg3 : w.heap.size = g3 at m3 ⊢
  have hG3 : w.heap.size ≤ g3 := by omega
  clear hsz_
  try clear hg3
  have hs_W1 : w.heap.size ≤ W1.heap.size := mB.size
  replace m3 := blk_drew m3
  replace mB := below_drew1 mB
  refine start_ (n := 14) (S := fun w' => w'.cell? ⟨g3, 0, none⟩ = some (.int .i64 par) ∧ w'.cell? ⟨g3, 1, none⟩ = some (.int .i64 rate) ∧ w'.cell? ⟨g3, 2, none⟩ = some (.slice (some ad) xs.length c) ∧ w'.cell? (ad.add (i.toNat * 8)) = some (.int .i64 Xi.f0) ∧ w'.cell? ⟨(ad.add (i.toNat * 8)).block, (ad.add (i.toNat * 8)).off + 1, none⟩ = some (.int .i64 Xi.f1) ∧ w'.cell? ⟨(ad.add (i.toNat * 8)).block, (ad.add (i.toNat * 8)).off + 2, none⟩ = some (.int .i64 Xi.f2) ∧ w'.cell? ⟨(ad.add (i.toNat * 8)).block, (ad.add (i.toNat * 8)).off + 3, none⟩ = some (.int .i64 Xi.f3) ∧ w'.cell? ⟨(ad.add (i.toNat * 8)).block, (ad.add (i.toNat * 8)).off + 4, none⟩ = some (.int .i64 Xi.f4.f0) ∧ w'.cell? ⟨(ad.add (i.toNat * 8)).block, (ad.add (i.toNat * 8)).off + 5, none⟩ = some (.int .i64 Xi.f4.f1) ∧ w'.cell? ⟨(ad.add (i.toNat * 8)).block, (ad.add (i.toNat * 8)).off + 6, none⟩ = some (.int .i64 Xi.f5.f0) ∧ w'.cell? ⟨(ad.add (i.toNat * 8)).block, (ad.add (i.toNat * 8)).off + 7, none⟩ = some (.int .i64 Xi.f5.f1) ∧ w'.cell? (ad.add (k.toNat * 8)) = some (.int .i64 Xk.f0) ∧ w'.cell? ⟨(ad.add (k.toNat * 8)).block, (ad.add (k.toNat * 8)).off + 1, none⟩ = some (.int .i64 Xk.f1) ∧ w'.cell? ⟨(ad.add (k.toNat * 8)).block, (ad.add (k.toNat * 8)).off + 2, none⟩ = some (.int .i64 Xk.f2) ∧ w'.cell? ⟨(ad.add (k.toNat * 8)).block, (ad.add (k.toNat * 8)).off + 3, none⟩ = some (.int .i64 Xk.f3) ∧ w'.cell? ⟨(ad.add (k.toNat * 8)).block, (ad.add (k.toNat * 8)).off + 4, none⟩ = some (.int .i64 Xk.f4.f0) ∧ w'.cell? ⟨(ad.add (k.toNat * 8)).block, (ad.add (k.toNat * 8)).off + 5, none⟩ = some (.int .i64 Xk.f4.f1) ∧ w'.cell? ⟨(ad.add (k.toNat * 8)).block, (ad.add (k.toNat * 8)).off + 6, none⟩ = some (.int .i64 Xk.f5.f0) ∧ w'.cell? ⟨(ad.add (k.toNat * 8)).block, (ad.add (k.toNat * 8)).off + 7, none⟩ = some (.int .i64 Xk.f5.f1)) (ds := []) #[false, false, false, false, false, false, false, false, false, false, false, false, false, false] (by kernel_rfl) rfl rfl ⟨((blk_cell m3 0).trans rfl), ((blk_cell m3 1).trans rfl), ((blk_cell m3 2).trans rfl), ((mB.cell (World.block_lt_of_cell? w _ hx0)).trans hx0), ((mB.cell (World.block_lt_of_cell? w _ hx1)).trans hx1), ((mB.cell (World.block_lt_of_cell? w _ hx2)).trans hx2), ((mB.cell (World.block_lt_of_cell? w _ hx3)).trans hx3), ((mB.cell (World.block_lt_of_cell? w _ hx4)).trans hx4), ((mB.cell (World.block_lt_of_cell? w _ hx5)).trans hx5), ((mB.cell (World.block_lt_of_cell? w _ hx6)).trans hx6), ((mB.cell (World.block_lt_of_cell? w _ hx7)).trans hx7), ((mB.cell (World.block_lt_of_cell? w _ hy0)).trans hy0), ((mB.cell (World.block_lt_of_cell? w _ hy1)).trans hy1), ((mB.cell (World.block_lt_of_cell? w _ hy2)).trans hy2), ((mB.cell (World.block_lt_of_cell? w _ hy3)).trans hy3), ((mB.cell (World.block_lt_of_cell? w _ hy4)).trans hy4), ((mB.cell (World.block_lt_of_cell? w _ hy5)).trans hy5), ((mB.cell (World.block_lt_of_cell? w _ hy6)).trans hy6), ((mB.cell (World.block_lt_of_cell? w _ hy7)).trans hy7)⟩ (fun hHeld => ?_)
  generalize hWd : World.drew _ = Wd at *
  clear hWd
  refine pure_ (i := 0) (N := some 10) (v := ?_) (a' := ?_) #[true, false, false, false, false, false, false, false, false, false, false, false, false, false] rfl rfl (by kernel_rfl) (fun _ _ _ h => h) (Or.inl ⟨by rfl, ?_⟩) ?_ ?_
  rotate_left
  · intro w'
    go_simp
    with_reducible rfl
  rotate_left
  · simp only [Act.put, List.setIfInBounds_toArray, List.set_cons_zero, List.set_cons_succ, i64_w, i32_w]
    rfl
  refine pure_ (i := 2) (N := some 12) (v := ?_) (a' := ?_) #[true, false, true, false, false, false, false, false, false, false, false, false, false, false] rfl rfl (by kernel_rfl) (fun _ _ _ h => h) (Or.inl ⟨by rfl, ?_⟩) ?_ ?_
  rotate_left
  · intro w'
    go_simp
    with_reducible rfl
  rotate_left
  · simp only [Act.put, List.setIfInBounds_toArray, List.set_cons_zero, List.set_cons_succ, i64_w, i32_w]
    rfl
  refine pure_ (i := 5) (N := some 15) (v := ?_) (a' := ?_) #[true, false, true, false, false, true, false, false, false, false, false, false, false, false] rfl rfl (by kernel_rfl) (fun _ _ _ h => h) (Or.inl ⟨by rfl, ?_⟩) ?_ ?_
  rotate_left
  · intro w'
    go_simp
    with_reducible rfl
  rotate_left
  · simp only [Act.put, List.setIfInBounds_toArray, List.set_cons_zero, List.set_cons_succ, i64_w, i32_w]
    rfl
  refine pure_ (i := 7) (N := some 17) (v := ?_) (a' := ?_) #[true, false, true, false, false, true, false, true, false, false, false, false, false, false] rfl rfl (by kernel_rfl) (fun _ _ _ h => h) (Or.inl ⟨by rfl, ?_⟩) ?_ ?_
  rotate_left
  · intro w'
    go_simp
    with_reducible rfl
  rotate_left
  · simp only [Act.put, List.setIfInBounds_toArray, List.set_cons_zero, List.set_cons_succ, i64_w, i32_w]
    rfl
  refine take_ (i := 1) (N := some 11) (v := ?_) (a' := ?_) #[true, true, true, false, false, true, false, true, false, false, false, false, false, false] rfl rfl (by kernel_rfl) (fun _ _ _ h => h) (Or.inl ⟨by rfl, ?_⟩) hHeld ?_ ?_
  rotate_left
  · rintro w' ⟨s0, s1, s2, s3, s4, s5, s6, s7, s8, s9, s10, s11, s12, s13, s14, s15, s16, s17, s18⟩
    go_simp
    with_reducible rfl
  rotate_left
  · simp only [Act.put, List.setIfInBounds_toArray, List.set_cons_zero, List.set_cons_succ, i64_w, i32_w]
    rfl
  refine pure_ (i := 3) (N := some 13) (v := ?_) (a' := ?_) #[true, true, true, true, false, true, false, true, false, false, false, false, false, false] rfl rfl (by kernel_rfl) (fun _ _ _ h => h) (Or.inl ⟨by rfl, ?_⟩) ?_ ?_
  rotate_left
  · intro w'
    go_simp
    with_reducible rfl
  rotate_left
  · simp only [Act.put, List.setIfInBounds_toArray, List.set_cons_zero, List.set_cons_succ, i64_w, i32_w]
    rfl
  refine take_ (i := 4) (N := some 14) (v := ?_) (a' := ?_) #[true, true, true, true, true, true, false, true, false, false, false, false, false, false] rfl rfl (by kernel_rfl) (fun _ _ _ h => h) (Or.inl ⟨by rfl, ?_⟩) hHeld ?_ ?_
  rotate_left
  · rintro w' ⟨s0, s1, s2, s3, s4, s5, s6, s7, s8, s9, s10, s11, s12, s13, s14, s15, s16, s17, s18⟩
    go_simp
    with_reducible rfl
  rotate_left
  · simp only [Act.put, List.setIfInBounds_toArray, List.set_cons_zero, List.set_cons_succ, i64_w, i32_w]
    rfl
  refine take_ (i := 6) (N := some 16) (v := ?_) (a' := ?_) #[true, true, true, true, true, true, true, true, false, false, false, false, false, false] rfl rfl (by kernel_rfl) (fun _ _ _ h => h) (Or.inl ⟨by rfl, ?_⟩) hHeld ?_ ?_
  rotate_left
  · rintro w' ⟨s0, s1, s2, s3, s4, s5, s6, s7, s8, s9, s10, s11, s12, s13, s14, s15, s16, s17, s18⟩
    go_simp
    with_reducible rfl
  rotate_left
  · simp only [Act.put, List.setIfInBounds_toArray, List.set_cons_zero, List.set_cons_succ, i64_w, i32_w]
    rfl
  refine pure_ (i := 8) (N := some 18) (v := ?_) (a' := ?_) #[true, true, true, true, true, true, true, true, true, false, false, false, false, false] rfl rfl (by kernel_rfl) (fun _ _ _ h => h) (Or.inl ⟨by rfl, ?_⟩) ?_ ?_
  rotate_left
  · intro w'
    go_simp
    with_reducible rfl
  rotate_left
  · simp only [Act.put, List.setIfInBounds_toArray, List.set_cons_zero, List.set_cons_succ, i64_w, i32_w]
    rfl
  refine take_ (i := 9) (N := some 19) (v := ?_) (a' := ?_) #[true, true, true, true, true, true, true, true, true, true, false, false, false, false] rfl rfl (by kernel_rfl) (fun _ _ _ h => h) (Or.inl ⟨by rfl, ?_⟩) hHeld ?_ ?_
  rotate_left
  · rintro w' ⟨s0, s1, s2, s3, s4, s5, s6, s7, s8, s9, s10, s11, s12, s13, s14, s15, s16, s17, s18⟩
    go_simp
    with_reducible rfl
  rotate_left
  · simp only [Act.put, List.setIfInBounds_toArray, List.set_cons_zero, List.set_cons_succ, i64_w, i32_w]
    rfl
  refine join_ (σ := Nat × Nat) 2 #[true, true, true, true, true, true, true, true, true, true, true, true, false, false] (fun s => [(7, .pointer (some ⟨s.1, 0, none⟩)), (8, .pointer (some ⟨s.2, 0, none⟩))]) (fun s w' => Blk w' g3 #[.int .i64 par, .int .i64 rate, .slice (some ad) xs.length c] 30 ∧ Blk w' (s.1) #[.int .i64 0, .int .i64 0, .int .i64 0, .int .i64 0, .int .i64 0, .int .i64 0, .int .i64 0, .int .i64 0] 46 ∧ Blk w' (s.2) #[.int .i64 0, .int .i64 0, .int .i64 0, .int .i64 0, .int .i64 0, .int .i64 0, .int .i64 0, .int .i64 0] 46 ∧ Below w.heap.size w w' ∧ w.heap.size ≤ s.1 ∧ w.heap.size ≤ s.2 ∧ g3 ≠ s.1 ∧ g3 ≠ s.2 ∧ s.1 ≠ s.2) ?_ ?_
  rotate_left
  · intro hCont
    refine two_ (i := 10) (j := 11) (Ni := some 7) (Nj := some 8) #[true, true, true, true, true, true, true, true, true, true, true, false, false, false] #[true, true, true, true, true, true, true, true, true, true, false, true, false, false] rfl rfl rfl rfl (by kernel_rfl) (by decide) (by decide) (fun K hK => ?_) (fun K hK => ?_)
    · skip
      have hn_3_7 : g3 ≠ Wd.heap.size := by have h_ := blk_lt m3; omega
      have hG7 : w.heap.size ≤ Wd.heap.size := by have h_ := mB.size; omega
      replace m3 := blk_alloc m3 (.cells #[.int .i64 0, .int .i64 0, .int .i64 0, .int .i64 0, .int .i64 0, .int .i64 0, .int .i64 0, .int .i64 0] 46)
      have m7 : Blk (Wd.alloc (.cells #[.int .i64 0, .int .i64 0, .int .i64 0, .int .i64 0, .int .i64 0, .int .i64 0, .int .i64 0, .int .i64 0] 46)) (Wd.heap.size) #[.int .i64 0, .int .i64 0, .int .i64 0, .int .i64 0, .int .i64 0, .int .i64 0, .int .i64 0, .int .i64 0] 46 := by have h_ := blk_new Wd (.cells #[.int .i64 0, .int .i64 0, .int .i64 0, .int .i64 0, .int .i64 0, .int .i64 0, .int .i64 0, .int .i64 0] 46); first | exact h_ | (simp only [World.size_alloc] at h_; exact h_)
      replace mB := below_alloc mB (.cells #[.int .i64 0, .int .i64 0, .int .i64 0, .int .i64 0, .int .i64 0, .int .i64 0, .int .i64 0, .int .i64 0] 46)
      refine value_ (w1 := ?_) (v := ?_) (by rfl) rfl ?_ ?_
      rotate_left 2
      · go_simp
        constructor
        · rfl
        · rfl
      refine hK.out _ _ ⟨((blk_cell m3 0).trans rfl), ((blk_cell m3 1).trans rfl), ((blk_cell m3 2).trans rfl), ((mB.cell (World.block_lt_of_cell? w _ hx0)).trans hx0), ((mB.cell (World.block_lt_of_cell? w _ hx1)).trans hx1), ((mB.cell (World.block_lt_of_cell? w _ hx2)).trans hx2), ((mB.cell (World.block_lt_of_cell? w _ hx3)).trans hx3), ((mB.cell (World.block_lt_of_cell? w _ hx4)).trans hx4), ((mB.cell (World.block_lt_of_cell? w _ hx5)).trans hx5), ((mB.cell (World.block_lt_of_cell? w _ hx6)).trans hx6), ((mB.cell (World.block_lt_of_cell? w _ hx7)).trans hx7), ((mB.cell (World.block_lt_of_cell? w _ hy0)).trans hy0), ((mB.cell (World.block_lt_of_cell? w _ hy1)).trans hy1), ((mB.cell (World.block_lt_of_cell? w _ hy2)).trans hy2), ((mB.cell (World.block_lt_of_cell? w _ hy3)).trans hy3), ((mB.cell (World.block_lt_of_cell? w _ hy4)).trans hy4), ((mB.cell (World.block_lt_of_cell? w _ hy5)).trans hy5), ((mB.cell (World.block_lt_of_cell? w _ hy6)).trans hy6), ((mB.cell (World.block_lt_of_cell? w _ hy7)).trans hy7)⟩ (fun hHeld => ?_)
      clear hK K
      refine norm_ (a' := ?_) ?_ ?_
      rotate_left
      · show Act.put _ (some 7) _ = _
        simp only [Act.put, List.setIfInBounds_toArray, List.set_cons_zero, List.set_cons_succ, i64_w, i32_w]
        rfl
      refine one_ (i := 11) (N := some 8) #[true, true, true, true, true, true, true, true, true, true, true, true, false, false] rfl rfl (by kernel_rfl) (by decide) (fun K hK => ?_)
      have hn_3_8 : g3 ≠ Wd.heap.size + 1 := by have h_ := blk_lt m3; simp only [World.size_alloc] at h_; omega
      have hn_7_8 : Wd.heap.size ≠ Wd.heap.size + 1 := by have h_ := blk_lt m7; simp only [World.size_alloc] at h_; omega
      have hG8 : w.heap.size ≤ Wd.heap.size + 1 := by have h_ := mB.size; simp only [World.size_alloc] at h_; omega
      replace m3 := blk_alloc m3 (.cells #[.int .i64 0, .int .i64 0, .int .i64 0, .int .i64 0, .int .i64 0, .int .i64 0, .int .i64 0, .int .i64 0] 46)
      replace m7 := blk_alloc m7 (.cells #[.int .i64 0, .int .i64 0, .int .i64 0, .int .i64 0, .int .i64 0, .int .i64 0, .int .i64 0, .int .i64 0] 46)
      have m8 : Blk ((Wd.alloc (.cells #[.int .i64 0, .int .i64 0, .int .i64 0, .int .i64 0, .int .i64 0, .int .i64 0, .int .i64 0, .int .i64 0] 46)).alloc (.cells #[.int .i64 0, .int .i64 0, .int .i64 0, .int .i64 0, .int .i64 0, .int .i64 0, .int .i64 0, .int .i64 0] 46)) (Wd.heap.size + 1) #[.int .i64 0, .int .i64 0, .int .i64 0, .int .i64 0, .int .i64 0, .int .i64 0, .int .i64 0, .int .i64 0] 46 := by have h_ := blk_new (Wd.alloc (.cells #[.int .i64 0, .int .i64 0, .int .i64 0, .int .i64 0, .int .i64 0, .int .i64 0, .int .i64 0, .int .i64 0] 46)) (.cells #[.int .i64 0, .int .i64 0, .int .i64 0, .int .i64 0, .int .i64 0, .int .i64 0, .int .i64 0, .int .i64 0] 46); first | exact h_ | (simp only [World.size_alloc] at h_; exact h_)
      replace mB := below_alloc mB (.cells #[.int .i64 0, .int .i64 0, .int .i64 0, .int .i64 0, .int .i64 0, .int .i64 0, .int .i64 0, .int .i64 0] 46)
      refine value_ (w1 := ?_) (v := ?_) (by rfl) rfl ?_ ?_
      rotate_left 2
      · go_simp
        constructor
        · rfl
        · rfl
      refine hK.out _ _ ⟨((blk_cell m3 0).trans rfl), ((blk_cell m3 1).trans rfl), ((blk_cell m3 2).trans rfl), ((mB.cell (World.block_lt_of_cell? w _ hx0)).trans hx0), ((mB.cell (World.block_lt_of_cell? w _ hx1)).trans hx1), ((mB.cell (World.block_lt_of_cell? w _ hx2)).trans hx2), ((mB.cell (World.block_lt_of_cell? w _ hx3)).trans hx3), ((mB.cell (World.block_lt_of_cell? w _ hx4)).trans hx4), ((mB.cell (World.block_lt_of_cell? w _ hx5)).trans hx5), ((mB.cell (World.block_lt_of_cell? w _ hx6)).trans hx6), ((mB.cell (World.block_lt_of_cell? w _ hx7)).trans hx7), ((mB.cell (World.block_lt_of_cell? w _ hy0)).trans hy0), ((mB.cell (World.block_lt_of_cell? w _ hy1)).trans hy1), ((mB.cell (World.block_lt_of_cell? w _ hy2)).trans hy2), ((mB.cell (World.block_lt_of_cell? w _ hy3)).trans hy3), ((mB.cell (World.block_lt_of_cell? w _ hy4)).trans hy4), ((mB.cell (World.block_lt_of_cell? w _ hy5)).trans hy5), ((mB.cell (World.block_lt_of_cell? w _ hy6)).trans hy6), ((mB.cell (World.block_lt_of_cell? w _ hy7)).trans hy7)⟩ (fun hHeld => ?_)
      clear hK K
      refine norm_ (a' := ?_) ?_ ?_
      rotate_left
      · show Act.put _ (some 8) _ = _
        simp only [Act.put, List.setIfInBounds_toArray, List.set_cons_zero, List.set_cons_succ, i64_w, i32_w]
        rfl
      exact norm_ (by first | (simp only [putAll, Act.put, List.setIfInBounds_toArray, List.set_cons_zero, List.set_cons_succ]; done) | (simp only [putAll, Act.put, List.setIfInBounds_toArray, List.set_cons_zero, List.set_cons_succ]; rfl)) (hCont ((Wd.heap.size, Wd.heap.size + 1)) _ ⟨m3, m7, m8, mB, hG7, hG8, hn_3_7, hn_3_8, hn_7_8⟩)
    · skip
      have hn_3_8 : g3 ≠ Wd.heap.size := by have h_ := blk_lt m3; omega
      have hG8 : w.heap.size ≤ Wd.heap.size := by have h_ := mB.size; omega
      replace m3 := blk_alloc m3 (.cells #[.int .i64 0, .int .i64 0, .int .i64 0, .int .i64 0, .int .i64 0, .int .i64 0, .int .i64 0, .int .i64 0] 46)
      have m8 : Blk (Wd.alloc (.cells #[.int .i64 0, .int .i64 0, .int .i64 0, .int .i64 0, .int .i64 0, .int .i64 0, .int .i64 0, .int .i64 0] 46)) (Wd.heap.size) #[.int .i64 0, .int .i64 0, .int .i64 0, .int .i64 0, .int .i64 0, .int .i64 0, .int .i64 0, .int .i64 0] 46 := by have h_ := blk_new Wd (.cells #[.int .i64 0, .int .i64 0, .int .i64 0, .int .i64 0, .int .i64 0, .int .i64 0, .int .i64 0, .int .i64 0] 46); first | exact h_ | (simp only [World.size_alloc] at h_; exact h_)
      replace mB := below_alloc mB (.cells #[.int .i64 0, .int .i64 0, .int .i64 0, .int .i64 0, .int .i64 0, .int .i64 0, .int .i64 0, .int .i64 0] 46)
      refine value_ (w1 := ?_) (v := ?_) (by rfl) rfl ?_ ?_
      rotate_left 2
      · go_simp
        constructor
        · rfl
        · rfl
      refine hK.out _ _ ⟨((blk_cell m3 0).trans rfl), ((blk_cell m3 1).trans rfl), ((blk_cell m3 2).trans rfl), ((mB.cell (World.block_lt_of_cell? w _ hx0)).trans hx0), ((mB.cell (World.block_lt_of_cell? w _ hx1)).trans hx1), ((mB.cell (World.block_lt_of_cell? w _ hx2)).trans hx2), ((mB.cell (World.block_lt_of_cell? w _ hx3)).trans hx3), ((mB.cell (World.block_lt_of_cell? w _ hx4)).trans hx4), ((mB.cell (World.block_lt_of_cell? w _ hx5)).trans hx5), ((mB.cell (World.block_lt_of_cell? w _ hx6)).trans hx6), ((mB.cell (World.block_lt_of_cell? w _ hx7)).trans hx7), ((mB.cell (World.block_lt_of_cell? w _ hy0)).trans hy0), ((mB.cell (World.block_lt_of_cell? w _ hy1)).trans hy1), ((mB.cell (World.block_lt_of_cell? w _ hy2)).trans hy2), ((mB.cell (World.block_lt_of_cell? w _ hy3)).trans hy3), ((mB.cell (World.block_lt_of_cell? w _ hy4)).trans hy4), ((mB.cell (World.block_lt_of_cell? w _ hy5)).trans hy5), ((mB.cell (World.block_lt_of_cell? w _ hy6)).trans hy6), ((mB.cell (World.block_lt_of_cell? w _ hy7)).trans hy7)⟩ (fun hHeld => ?_)
      clear hK K
      refine norm_ (a' := ?_) ?_ ?_
      rotate_left
      · show Act.put _ (some 8) _ = _
        simp only [Act.put, List.setIfInBounds_toArray, List.set_cons_zero, List.set_cons_succ, i64_w, i32_w]
        rfl
      refine one_ (i := 10) (N := some 7) #[true, true, true, true, true, true, true, true, true, true, true, true, false, false] rfl rfl (by kernel_rfl) (by decide) (fun K hK => ?_)
      have hn_3_7 : g3 ≠ Wd.heap.size + 1 := by have h_ := blk_lt m3; simp only [World.size_alloc] at h_; omega
      have hn_8_7 : Wd.heap.size ≠ Wd.heap.size + 1 := by have h_ := blk_lt m8; simp only [World.size_alloc] at h_; omega
      have hG7 : w.heap.size ≤ Wd.heap.size + 1 := by have h_ := mB.size; simp only [World.size_alloc] at h_; omega
      replace m3 := blk_alloc m3 (.cells #[.int .i64 0, .int .i64 0, .int .i64 0, .int .i64 0, .int .i64 0, .int .i64 0, .int .i64 0, .int .i64 0] 46)
      replace m8 := blk_alloc m8 (.cells #[.int .i64 0, .int .i64 0, .int .i64 0, .int .i64 0, .int .i64 0, .int .i64 0, .int .i64 0, .int .i64 0] 46)
      have m7 : Blk ((Wd.alloc (.cells #[.int .i64 0, .int .i64 0, .int .i64 0, .int .i64 0, .int .i64 0, .int .i64 0, .int .i64 0, .int .i64 0] 46)).alloc (.cells #[.int .i64 0, .int .i64 0, .int .i64 0, .int .i64 0, .int .i64 0, .int .i64 0, .int .i64 0, .int .i64 0] 46)) (Wd.heap.size + 1) #[.int .i64 0, .int .i64 0, .int .i64 0, .int .i64 0, .int .i64 0, .int .i64 0, .int .i64 0, .int .i64 0] 46 := by have h_ := blk_new (Wd.alloc (.cells #[.int .i64 0, .int .i64 0, .int .i64 0, .int .i64 0, .int .i64 0, .int .i64 0, .int .i64 0, .int .i64 0] 46)) (.cells #[.int .i64 0, .int .i64 0, .int .i64 0, .int .i64 0, .int .i64 0, .int .i64 0, .int .i64 0, .int .i64 0] 46); first | exact h_ | (simp only [World.size_alloc] at h_; exact h_)
      replace mB := below_alloc mB (.cells #[.int .i64 0, .int .i64 0, .int .i64 0, .int .i64 0, .int .i64 0, .int .i64 0, .int .i64 0, .int .i64 0] 46)
      refine value_ (w1 := ?_) (v := ?_) (by rfl) rfl ?_ ?_
      rotate_left 2
      · go_simp
        constructor
        · rfl
        · rfl
      refine hK.out _ _ ⟨((blk_cell m3 0).trans rfl), ((blk_cell m3 1).trans rfl), ((blk_cell m3 2).trans rfl), ((mB.cell (World.block_lt_of_cell? w _ hx0)).trans hx0), ((mB.cell (World.block_lt_of_cell? w _ hx1)).trans hx1), ((mB.cell (World.block_lt_of_cell? w _ hx2)).trans hx2), ((mB.cell (World.block_lt_of_cell? w _ hx3)).trans hx3), ((mB.cell (World.block_lt_of_cell? w _ hx4)).trans hx4), ((mB.cell (World.block_lt_of_cell? w _ hx5)).trans hx5), ((mB.cell (World.block_lt_of_cell? w _ hx6)).trans hx6), ((mB.cell (World.block_lt_of_cell? w _ hx7)).trans hx7), ((mB.cell (World.block_lt_of_cell? w _ hy0)).trans hy0), ((mB.cell (World.block_lt_of_cell? w _ hy1)).trans hy1), ((mB.cell (World.block_lt_of_cell? w _ hy2)).trans hy2), ((mB.cell (World.block_lt_of_cell? w _ hy3)).trans hy3), ((mB.cell (World.block_lt_of_cell? w _ hy4)).trans hy4), ((mB.cell (World.block_lt_of_cell? w _ hy5)).trans hy5), ((mB.cell (World.block_lt_of_cell? w _ hy6)).trans hy6), ((mB.cell (World.block_lt_of_cell? w _ hy7)).trans hy7)⟩ (fun hHeld => ?_)
      clear hK K
      refine norm_ (a' := ?_) ?_ ?_
      rotate_left
      · show Act.put _ (some 7) _ = _
        simp only [Act.put, List.setIfInBounds_toArray, List.set_cons_zero, List.set_cons_succ, i64_w, i32_w]
        rfl
      exact norm_ (by first | (simp only [putAll, Act.put, List.setIfInBounds_toArray, List.set_cons_zero, List.set_cons_succ]; done) | (simp only [putAll, Act.put, List.setIfInBounds_toArray, List.set_cons_zero, List.set_cons_succ]; rfl)) (hCont ((Wd.heap.size + 1, Wd.heap.size)) _ ⟨m3, m7, m8, mB, hG7, hG8, hn_3_7, hn_3_8, hn_8_7.symm⟩)
  rintro ⟨g7, g8⟩ Wf ⟨m3, m7, m8, mB, hG7, hG8, hn_3_7, hn_3_8, hn_7_8⟩
  dsimp only at m3 m7 m8 mB hG7 hG8 hn_3_7 hn_3_8 hn_7_8
  have hHeld : (Wf.cell? ⟨g3, 0, none⟩ = some (.int .i64 par) ∧ Wf.cell? ⟨g3, 1, none⟩ = some (.int .i64 rate) ∧ Wf.cell? ⟨g3, 2, none⟩ = some (.slice (some ad) xs.length c) ∧ Wf.cell? (ad.add (i.toNat * 8)) = some (.int .i64 Xi.f0) ∧ Wf.cell? ⟨(ad.add (i.toNat * 8)).block, (ad.add (i.toNat * 8)).off + 1, none⟩ = some (.int .i64 Xi.f1) ∧ Wf.cell? ⟨(ad.add (i.toNat * 8)).block, (ad.add (i.toNat * 8)).off + 2, none⟩ = some (.int .i64 Xi.f2) ∧ Wf.cell? ⟨(ad.add (i.toNat * 8)).block, (ad.add (i.toNat * 8)).off + 3, none⟩ = some (.int .i64 Xi.f3) ∧ Wf.cell? ⟨(ad.add (i.toNat * 8)).block, (ad.add (i.toNat * 8)).off + 4, none⟩ = some (.int .i64 Xi.f4.f0) ∧ Wf.cell? ⟨(ad.add (i.toNat * 8)).block, (ad.add (i.toNat * 8)).off + 5, none⟩ = some (.int .i64 Xi.f4.f1) ∧ Wf.cell? ⟨(ad.add (i.toNat * 8)).block, (ad.add (i.toNat * 8)).off + 6, none⟩ = some (.int .i64 Xi.f5.f0) ∧ Wf.cell? ⟨(ad.add (i.toNat * 8)).block, (ad.add (i.toNat * 8)).off + 7, none⟩ = some (.int .i64 Xi.f5.f1) ∧ Wf.cell? (ad.add (k.toNat * 8)) = some (.int .i64 Xk.f0) ∧ Wf.cell? ⟨(ad.add (k.toNat * 8)).block, (ad.add (k.toNat * 8)).off + 1, none⟩ = some (.int .i64 Xk.f1) ∧ Wf.cell? ⟨(ad.add (k.toNat * 8)).block, (ad.add (k.toNat * 8)).off + 2, none⟩ = some (.int .i64 Xk.f2) ∧ Wf.cell? ⟨(ad.add (k.toNat * 8)).block, (ad.add (k.toNat * 8)).off + 3, none⟩ = some (.int .i64 Xk.f3) ∧ Wf.cell? ⟨(ad.add (k.toNat * 8)).block, (ad.add (k.toNat * 8)).off + 4, none⟩ = some (.int .i64 Xk.f4.f0) ∧ Wf.cell? ⟨(ad.add (k.toNat * 8)).block, (ad.add (k.toNat * 8)).off + 5, none⟩ = some (.int .i64 Xk.f4.f1) ∧ Wf.cell? ⟨(ad.add (k.toNat * 8)).block, (ad.add (k.toNat * 8)).off + 6, none⟩ = some (.int .i64 Xk.f5.f0) ∧ Wf.cell? ⟨(ad.add (k.toNat * 8)).block, (ad.add (k.toNat * 8)).off + 7, none⟩ = some (.int .i64 Xk.f5.f1)) := ⟨((blk_cell m3 0).trans rfl), ((blk_cell m3 1).trans rfl), ((blk_cell m3 2).trans rfl), ((mB.cell (World.block_lt_of_cell? w _ hx0)).trans hx0), ((mB.cell (World.block_lt_of_cell? w _ hx1)).trans hx1), ((mB.cell (World.block_lt_of_cell? w _ hx2)).trans hx2), ((mB.cell (World.block_lt_of_cell? w _ hx3)).trans hx3), ((mB.cell (World.block_lt_of_cell? w _ hx4)).trans hx4), ((mB.cell (World.block_lt_of_cell? w _ hx5)).trans hx5), ((mB.cell (World.block_lt_of_cell? w _ hx6)).trans hx6), ((mB.cell (World.block_lt_of_cell? w _ hx7)).trans hx7), ((mB.cell (World.block_lt_of_cell? w _ hy0)).trans hy0), ((mB.cell (World.block_lt_of_cell? w _ hy1)).trans hy1), ((mB.cell (World.block_lt_of_cell? w _ hy2)).trans hy2), ((mB.cell (World.block_lt_of_cell? w _ hy3)).trans hy3), ((mB.cell (World.block_lt_of_cell? w _ hy4)).trans hy4), ((mB.cell (World.block_lt_of_cell? w _ hy5)).trans hy5), ((mB.cell (World.block_lt_of_cell? w _ hy6)).trans hy6), ((mB.cell (World.block_lt_of_cell? w _ hy7)).trans hy7)⟩
  refine norm_ (a' := ?_) ?_ ?_
  rotate_left
  · simp only [putAll, Act.put, List.setIfInBounds_toArray, List.set_cons_zero, List.set_cons_succ]
    rfl
  refine one_ (i := 12) (N := none) #[true, true, true, true, true, true, true, true, true, true, true, true, true, false] rfl rfl (by kernel_rfl) (by decide) (fun K hK => ?_)
  have hn_8_7 := hn_7_8.symm
  have hf0_ := blk_frozen m7 0
  have hc0_ := (blk_cell m7 0).trans rfl
  have hf1_ := blk_frozen m7 1
  have hc1_ := (blk_cell m7 1).trans rfl
  have hf2_ := blk_frozen m7 2
  have hc2_ := (blk_cell m7 2).trans rfl
  have hf3_ := blk_frozen m7 3
  have hc3_ := (blk_cell m7 3).trans rfl
  have hf4_ := blk_frozen m7 4
  have hc4_ := (blk_cell m7 4).trans rfl
  have hf5_ := blk_frozen m7 5
  have hc5_ := (blk_cell m7 5).trans rfl
  have hf6_ := blk_frozen m7 6
  have hc6_ := (blk_cell m7 6).trans rfl
  have hf7_ := blk_frozen m7 7
  have hc7_ := (blk_cell m7 7).trans rfl
  refine skip_ (w1 := ?_) (by rfl) rfl ?_ ?_
  rotate_left
  · go_simp
    rfl
  clear hf0_ hc0_ hf1_ hc1_ hf2_ hc2_ hf3_ hc3_ hf4_ hc4_ hf5_ hc5_ hf6_ hc6_ hf7_ hc7_
  replace m3 : Blk (Wf.setCell ⟨g7, 0, none⟩ (.int .i64 Xi.f0)) g3 #[.int .i64 par, .int .i64 rate, .slice (some ad) xs.length c] 30 := blk_far (p := ⟨g7, 0, none⟩) m3 hn_3_7 _
  replace m8 : Blk (Wf.setCell ⟨g7, 0, none⟩ (.int .i64 Xi.f0)) g8 #[.int .i64 0, .int .i64 0, .int .i64 0, .int .i64 0, .int .i64 0, .int .i64 0, .int .i64 0, .int .i64 0] 46 := blk_far (p := ⟨g7, 0, none⟩) m8 hn_8_7 _
  replace m7 : Blk (Wf.setCell ⟨g7, 0, none⟩ (.int .i64 Xi.f0)) g7 #[.int .i64 Xi.f0, .int .i64 0, .int .i64 0, .int .i64 0, .int .i64 0, .int .i64 0, .int .i64 0, .int .i64 0] 46 := blk_put m7 0 _ rfl
  replace mB : Below w.heap.size w (Wf.setCell ⟨g7, 0, none⟩ (.int .i64 Xi.f0)) := mB.setCell (p := ⟨g7, 0, none⟩) hG7 _
  replace m3 : Blk ((Wf.setCell ⟨g7, 0, none⟩ (.int .i64 Xi.f0)).setCell ⟨g7, 1, none⟩ (.int .i64 Xi.f1)) g3 #[.int .i64 par, .int .i64 rate, .slice (some ad) xs.length c] 30 := blk_far (p := ⟨g7, 1, none⟩) m3 hn_3_7 _
  replace m8 : Blk ((Wf.setCell ⟨g7, 0, none⟩ (.int .i64 Xi.f0)).setCell ⟨g7, 1, none⟩ (.int .i64 Xi.f1)) g8 #[.int .i64 0, .int .i64 0, .int .i64 0, .int .i64 0, .int .i64 0, .int .i64 0, .int .i64 0, .int .i64 0] 46 := blk_far (p := ⟨g7, 1, none⟩) m8 hn_8_7 _
  replace m7 : Blk ((Wf.setCell ⟨g7, 0, none⟩ (.int .i64 Xi.f0)).setCell ⟨g7, 1, none⟩ (.int .i64 Xi.f1)) g7 #[.int .i64 Xi.f0, .int .i64 Xi.f1, .int .i64 0, .int .i64 0, .int .i64 0, .int .i64 0, .int .i64 0, .int .i64 0] 46 := blk_put m7 1 _ rfl
  replace mB : Below w.heap.size w ((Wf.setCell ⟨g7, 0, none⟩ (.int .i64 Xi.f0)).setCell ⟨g7, 1, none⟩ (.int .i64 Xi.f1)) := mB.setCell (p := ⟨g7, 1, none⟩) hG7 _
  replace m3 : Blk (((Wf.setCell ⟨g7, 0, none⟩ (.int .i64 Xi.f0)).setCell ⟨g7, 1, none⟩ (.int .i64 Xi.f1)).setCell ⟨g7, 2, none⟩ (.int .i64 Xi.f2)) g3 #[.int .i64 par, .int .i64 rate, .slice (some ad) xs.length c] 30 := blk_far (p := ⟨g7, 2, none⟩) m3 hn_3_7 _
  replace m8 : Blk (((Wf.setCell ⟨g7, 0, none⟩ (.int .i64 Xi.f0)).setCell ⟨g7, 1, none⟩ (.int .i64 Xi.f1)).setCell ⟨g7, 2, none⟩ (.int .i64 Xi.f2)) g8 #[.int .i64 0, .int .i64 0, .int .i64 0, .int .i64 0, .int .i64 0, .int .i64 0, .int .i64 0, .int .i64 0] 46 := blk_far (p := ⟨g7, 2, none⟩) m8 hn_8_7 _
  replace m7 : Blk (((Wf.setCell ⟨g7, 0, none⟩ (.int .i64 Xi.f0)).setCell ⟨g7, 1, none⟩ (.int .i64 Xi.f1)).setCell ⟨g7, 2, none⟩ (.int .i64 Xi.f2)) g7 #[.int .i64 Xi.f0, .int .i64 Xi.f1, .int .i64 Xi.f2, .int .i64 0, .int .i64 0, .int .i64 0, .int .i64 0, .int .i64 0] 46 := blk_put m7 2 _ rfl
  replace mB : Below w.heap.size w (((Wf.setCell ⟨g7, 0, none⟩ (.int .i64 Xi.f0)).setCell ⟨g7, 1, none⟩ (.int .i64 Xi.f1)).setCell ⟨g7, 2, none⟩ (.int .i64 Xi.f2)) := mB.setCell (p := ⟨g7, 2, none⟩) hG7 _
  replace m3 : Blk ((((Wf.setCell ⟨g7, 0, none⟩ (.int .i64 Xi.f0)).setCell ⟨g7, 1, none⟩ (.int .i64 Xi.f1)).setCell ⟨g7, 2, none⟩ (.int .i64 Xi.f2)).setCell ⟨g7, 3, none⟩ (.int .i64 Xi.f3)) g3 #[.int .i64 par, .int .i64 rate, .slice (some ad) xs.length c] 30 := blk_far (p := ⟨g7, 3, none⟩) m3 hn_3_7 _
  replace m8 : Blk ((((Wf.setCell ⟨g7, 0, none⟩ (.int .i64 Xi.f0)).setCell ⟨g7, 1, none⟩ (.int .i64 Xi.f1)).setCell ⟨g7, 2, none⟩ (.int .i64 Xi.f2)).setCell ⟨g7, 3, none⟩ (.int .i64 Xi.f3)) g8 #[.int .i64 0, .int .i64 0, .int .i64 0, .int .i64 0, .int .i64 0, .int .i64 0, .int .i64 0, .int .i64 0] 46 := blk_far (p := ⟨g7, 3, none⟩) m8 hn_8_7 _
  replace m7 : Blk ((((Wf.setCell ⟨g7, 0, none⟩ (.int .i64 Xi.f0)).setCell ⟨g7, 1, none⟩ (.int .i64 Xi.f1)).setCell ⟨g7, 2, none⟩ (.int .i64 Xi.f2)).setCell ⟨g7, 3, none⟩ (.int .i64 Xi.f3)) g7 #[.int .i64 Xi.f0, .int .i64 Xi.f1, .int .i64 Xi.f2, .int .i64 Xi.f3, .int .i64 0, .int .i64 0, .int .i64 0, .int .i64 0] 46 := blk_put m7 3 _ rfl
  replace mB : Below w.heap.size w ((((Wf.setCell ⟨g7, 0, none⟩ (.int .i64 Xi.f0)).setCell ⟨g7, 1, none⟩ (.int .i64 Xi.f1)).setCell ⟨g7, 2, none⟩ (.int .i64 Xi.f2)).setCell ⟨g7, 3, none⟩ (.int .i64 Xi.f3)) := mB.setCell (p := ⟨g7, 3, none⟩) hG7 _
  replace m3 : Blk (((((Wf.setCell ⟨g7, 0, none⟩ (.int .i64 Xi.f0)).setCell ⟨g7, 1, none⟩ (.int .i64 Xi.f1)).setCell ⟨g7, 2, none⟩ (.int .i64 Xi.f2)).setCell ⟨g7, 3, none⟩ (.int .i64 Xi.f3)).setCell ⟨g7, 4, none⟩ (.int .i64 Xi.f4.f0)) g3 #[.int .i64 par, .int .i64 rate, .slice (some ad) xs.length c] 30 := blk_far (p := ⟨g7, 4, none⟩) m3 hn_3_7 _
  replace m8 : Blk (((((Wf.setCell ⟨g7, 0, none⟩ (.int .i64 Xi.f0)).setCell ⟨g7, 1, none⟩ (.int .i64 Xi.f1)).setCell ⟨g7, 2, none⟩ (.int .i64 Xi.f2)).setCell ⟨g7, 3, none⟩ (.int .i64 Xi.f3)).setCell ⟨g7, 4, none⟩ (.int .i64 Xi.f4.f0)) g8 #[.int .i64 0, .int .i64 0, .int .i64 0, .int .i64 0, .int .i64 0, .int .i64 0, .int .i64 0, .int .i64 0] 46 := blk_far (p := ⟨g7, 4, none⟩) m8 hn_8_7 _
  replace m7 : Blk (((((Wf.setCell ⟨g7, 0, none⟩ (.int .i64 Xi.f0)).setCell ⟨g7, 1, none⟩ (.int .i64 Xi.f1)).setCell ⟨g7, 2, none⟩ (.int .i64 Xi.f2)).setCell ⟨g7, 3, none⟩ (.int .i64 Xi.f3)).setCell ⟨g7, 4, none⟩ (.int .i64 Xi.f4.f0)) g7 #[.int .i64 Xi.f0, .int .i64 Xi.f1, .int .i64 Xi.f2, .int .i64 Xi.f3, .int .i64 Xi.f4.f0, .int .i64 0, .int .i64 0, .int .i64 0] 46 := blk_put m7 4 _ rfl
  replace mB : Below w.heap.size w (((((Wf.setCell ⟨g7, 0, none⟩ (.int .i64 Xi.f0)).setCell ⟨g7, 1, none⟩ (.int .i64 Xi.f1)).setCell ⟨g7, 2, none⟩ (.int .i64 Xi.f2)).setCell ⟨g7, 3, none⟩ (.int .i64 Xi.f3)).setCell ⟨g7, 4, none⟩ (.int .i64 Xi.f4.f0)) := mB.setCell (p := ⟨g7, 4, none⟩) hG7 _
  replace m3 : Blk ((((((Wf.setCell ⟨g7, 0, none⟩ (.int .i64 Xi.f0)).setCell ⟨g7, 1, none⟩ (.int .i64 Xi.f1)).setCell ⟨g7, 2, none⟩ (.int .i64 Xi.f2)).setCell ⟨g7, 3, none⟩ (.int .i64 Xi.f3)).setCell ⟨g7, 4, none⟩ (.int .i64 Xi.f4.f0)).setCell ⟨g7, 5, none⟩ (.int .i64 Xi.f4.f1)) g3 #[.int .i64 par, .int .i64 rate, .slice (some ad) xs.length c] 30 := blk_far (p := ⟨g7, 5, none⟩) m3 hn_3_7 _
  replace m8 : Blk ((((((Wf.setCell ⟨g7, 0, none⟩ (.int .i64 Xi.f0)).setCell ⟨g7, 1, none⟩ (.int .i64 Xi.f1)).setCell ⟨g7, 2, none⟩ (.int .i64 Xi.f2)).setCell ⟨g7, 3, none⟩ (.int .i64 Xi.f3)).setCell ⟨g7, 4, none⟩ (.int .i64 Xi.f4.f0)).setCell ⟨g7, 5, none⟩ (.int .i64 Xi.f4.f1)) g8 #[.int .i64 0, .int .i64 0, .int .i64 0, .int .i64 0, .int .i64 0, .int .i64 0, .int .i64 0, .int .i64 0] 46 := blk_far (p := ⟨g7, 5, none⟩) m8 hn_8_7 _
  replace m7 : Blk ((((((Wf.setCell ⟨g7, 0, none⟩ (.int .i64 Xi.f0)).setCell ⟨g7, 1, none⟩ (.int .i64 Xi.f1)).setCell ⟨g7, 2, none⟩ (.int .i64 Xi.f2)).setCell ⟨g7, 3, none⟩ (.int .i64 Xi.f3)).setCell ⟨g7, 4, none⟩ (.int .i64 Xi.f4.f0)).setCell ⟨g7, 5, none⟩ (.int .i64 Xi.f4.f1)) g7 #[.int .i64 Xi.f0, .int .i64 Xi.f1, .int .i64 Xi.f2, .int .i64 Xi.f3, .int .i64 Xi.f4.f0, .int .i64 Xi.f4.f1, .int .i64 0, .int .i64 0] 46 := blk_put m7 5 _ rfl
  replace mB : Below w.heap.size w ((((((Wf.setCell ⟨g7, 0, none⟩ (.int .i64 Xi.f0)).setCell ⟨g7, 1, none⟩ (.int .i64 Xi.f1)).setCell ⟨g7, 2, none⟩ (.int .i64 Xi.f2)).setCell ⟨g7, 3, none⟩ (.int .i64 Xi.f3)).setCell ⟨g7, 4, none⟩ (.int .i64 Xi.f4.f0)).setCell ⟨g7, 5, none⟩ (.int .i64 Xi.f4.f1)) := mB.setCell (p := ⟨g7, 5, none⟩) hG7 _
  replace m3 : Blk (((((((Wf.setCell ⟨g7, 0, none⟩ (.int .i64 Xi.f0)).setCell ⟨g7, 1, none⟩ (.int .i64 Xi.f1)).setCell ⟨g7, 2, none⟩ (.int .i64 Xi.f2)).setCell ⟨g7, 3, none⟩ (.int .i64 Xi.f3)).setCell ⟨g7, 4, none⟩ (.int .i64 Xi.f4.f0)).setCell ⟨g7, 5, none⟩ (.int .i64 Xi.f4.f1)).setCell ⟨g7, 6, none⟩ (.int .i64 Xi.f5.f0)) g3 #[.int .i64 par, .int .i64 rate, .slice (some ad) xs.length c] 30 := blk_far (p := ⟨g7, 6, none⟩) m3 hn_3_7 _
  replace m8 : Blk (((((((Wf.setCell ⟨g7, 0, none⟩ (.int .i64 Xi.f0)).setCell ⟨g7, 1, none⟩ (.int .i64 Xi.f1)).setCell ⟨g7, 2, none⟩ (.int .i64 Xi.f2)).setCell ⟨g7, 3, none⟩ (.int .i64 Xi.f3)).setCell ⟨g7, 4, none⟩ (.int .i64 Xi.f4.f0)).setCell ⟨g7, 5, none⟩ (.int .i64 Xi.f4.f1)).setCell ⟨g7, 6, none⟩ (.int .i64 Xi.f5.f0)) g8 #[.int .i64 0, .int .i64 0, .int .i64 0, .int .i64 0, .int .i64 0, .int .i64 0, .int .i64 0, .int .i64 0] 46 := blk_far (p := ⟨g7, 6, none⟩) m8 hn_8_7 _
  replace m7 : Blk (((((((Wf.setCell ⟨g7, 0, none⟩ (.int .i64 Xi.f0)).setCell ⟨g7, 1, none⟩ (.int .i64 Xi.f1)).setCell ⟨g7, 2, none⟩ (.int .i64 Xi.f2)).setCell ⟨g7, 3, none⟩ (.int .i64 Xi.f3)).setCell ⟨g7, 4, none⟩ (.int .i64 Xi.f4.f0)).setCell ⟨g7, 5, none⟩ (.int .i64 Xi.f4.f1)).setCell ⟨g7, 6, none⟩ (.int .i64 Xi.f5.f0)) g7 #[.int .i64 Xi.f0, .int .i64 Xi.f1, .int .i64 Xi.f2, .int .i64 Xi.f3, .int .i64 Xi.f4.f0, .int .i64 Xi.f4.f1, .int .i64 Xi.f5.f0, .int .i64 0] 46 := blk_put m7 6 _ rfl
  replace mB : Below w.heap.size w (((((((Wf.setCell ⟨g7, 0, none⟩ (.int .i64 Xi.f0)).setCell ⟨g7, 1, none⟩ (.int .i64 Xi.f1)).setCell ⟨g7, 2, none⟩ (.int .i64 Xi.f2)).setCell ⟨g7, 3, none⟩ (.int .i64 Xi.f3)).setCell ⟨g7, 4, none⟩ (.int .i64 Xi.f4.f0)).setCell ⟨g7, 5, none⟩ (.int .i64 Xi.f4.f1)).setCell ⟨g7, 6, none⟩ (.int .i64 Xi.f5.f0)) := mB.setCell (p := ⟨g7, 6, none⟩) hG7 _
  replace m3 : Blk ((((((((Wf.setCell ⟨g7, 0, none⟩ (.int .i64 Xi.f0)).setCell ⟨g7, 1, none⟩ (.int .i64 Xi.f1)).setCell ⟨g7, 2, none⟩ (.int .i64 Xi.f2)).setCell ⟨g7, 3, none⟩ (.int .i64 Xi.f3)).setCell ⟨g7, 4, none⟩ (.int .i64 Xi.f4.f0)).setCell ⟨g7, 5, none⟩ (.int .i64 Xi.f4.f1)).setCell ⟨g7, 6, none⟩ (.int .i64 Xi.f5.f0)).setCell ⟨g7, 7, none⟩ (.int .i64 Xi.f5.f1)) g3 #[.int .i64 par, .int .i64 rate, .slice (some ad) xs.length c] 30 := blk_far (p := ⟨g7, 7, none⟩) m3 hn_3_7 _
  replace m8 : Blk ((((((((Wf.setCell ⟨g7, 0, none⟩ (.int .i64 Xi.f0)).setCell ⟨g7, 1, none⟩ (.int .i64 Xi.f1)).setCell ⟨g7, 2, none⟩ (.int .i64 Xi.f2)).setCell ⟨g7, 3, none⟩ (.int .i64 Xi.f3)).setCell ⟨g7, 4, none⟩ (.int .i64 Xi.f4.f0)).setCell ⟨g7, 5, none⟩ (.int .i64 Xi.f4.f1)).setCell ⟨g7, 6, none⟩ (.int .i64 Xi.f5.f0)).setCell ⟨g7, 7, none⟩ (.int .i64 Xi.f5.f1)) g8 #[.int .i64 0, .int .i64 0, .int .i64 0, .int .i64 0, .int .i64 0, .int .i64 0, .int .i64 0, .int .i64 0] 46 := blk_far (p := ⟨g7, 7, none⟩) m8 hn_8_7 _
  replace m7 : Blk ((((((((Wf.setCell ⟨g7, 0, none⟩ (.int .i64 Xi.f0)).setCell ⟨g7, 1, none⟩ (.int .i64 Xi.f1)).setCell ⟨g7, 2, none⟩ (.int .i64 Xi.f2)).setCell ⟨g7, 3, none⟩ (.int .i64 Xi.f3)).setCell ⟨g7, 4, none⟩ (.int .i64 Xi.f4.f0)).setCell ⟨g7, 5, none⟩ (.int .i64 Xi.f4.f1)).setCell ⟨g7, 6, none⟩ (.int .i64 Xi.f5.f0)).setCell ⟨g7, 7, none⟩ (.int .i64 Xi.f5.f1)) g7 #[.int .i64 Xi.f0, .int .i64 Xi.f1, .int .i64 Xi.f2, .int .i64 Xi.f3, .int .i64 Xi.f4.f0, .int .i64 Xi.f4.f1, .int .i64 Xi.f5.f0, .int .i64 Xi.f5.f1] 46 := blk_put m7 7 _ rfl
  replace mB : Below w.heap.size w ((((((((Wf.setCell ⟨g7, 0, none⟩ (.int .i64 Xi.f0)).setCell ⟨g7, 1, none⟩ (.int .i64 Xi.f1)).setCell ⟨g7, 2, none⟩ (.int .i64 Xi.f2)).setCell ⟨g7, 3, none⟩ (.int .i64 Xi.f3)).setCell ⟨g7, 4, none⟩ (.int .i64 Xi.f4.f0)).setCell ⟨g7, 5, none⟩ (.int .i64 Xi.f4.f1)).setCell ⟨g7, 6, none⟩ (.int .i64 Xi.f5.f0)).setCell ⟨g7, 7, none⟩ (.int .i64 Xi.f5.f1)) := mB.setCell (p := ⟨g7, 7, none⟩) hG7 _
  generalize hE_ : ((((((((Wf.setCell ⟨g7, 0, none⟩ (.int .i64 Xi.f0)).setCell ⟨g7, 1, none⟩ (.int .i64 Xi.f1)).setCell ⟨g7, 2, none⟩ (.int .i64 Xi.f2)).setCell ⟨g7, 3, none⟩ (.int .i64 Xi.f3)).setCell ⟨g7, 4, none⟩ (.int .i64 Xi.f4.f0)).setCell ⟨g7, 5, none⟩ (.int .i64 Xi.f4.f1)).setCell ⟨g7, 6, none⟩ (.int .i64 Xi.f5.f0)).setCell ⟨g7, 7, none⟩ (.int .i64 Xi.f5.f1)) = Wz at m3 m7 m8 mB ⊢
  clear hE_
  refine hK.out _ _ ⟨((blk_cell m3 0).trans rfl), ((blk_cell m3 1).trans rfl), ((blk_cell m3 2).trans rfl), ((mB.cell (World.block_lt_of_cell? w _ hx0)).trans hx0), ((mB.cell (World.block_lt_of_cell? w _ hx1)).trans hx1), ((mB.cell (World.block_lt_of_cell? w _ hx2)).trans hx2), ((mB.cell (World.block_lt_of_cell? w _ hx3)).trans hx3), ((mB.cell (World.block_lt_of_cell? w _ hx4)).trans hx4), ((mB.cell (World.block_lt_of_cell? w _ hx5)).trans hx5), ((mB.cell (World.block_lt_of_cell? w _ hx6)).trans hx6), ((mB.cell (World.block_lt_of_cell? w _ hx7)).trans hx7), ((mB.cell (World.block_lt_of_cell? w _ hy0)).trans hy0), ((mB.cell (World.block_lt_of_cell? w _ hy1)).trans hy1), ((mB.cell (World.block_lt_of_cell? w _ hy2)).trans hy2), ((mB.cell (World.block_lt_of_cell? w _ hy3)).trans hy3), ((mB.cell (World.block_lt_of_cell? w _ hy4)).trans hy4), ((mB.cell (World.block_lt_of_cell? w _ hy5)).trans hy5), ((mB.cell (World.block_lt_of_cell? w _ hy6)).trans hy6), ((mB.cell (World.block_lt_of_cell? w _ hy7)).trans hy7)⟩ (fun hHeld => ?_)
  clear hK K
  refine one_ (i := 13) (N := none) #[true, true, true, true, true, true, true, true, true, true, true, true, true, true] rfl rfl (by kernel_rfl) (by decide) (fun K hK => ?_)
  have hf0_ := blk_frozen m8 0
  have hc0_ := (blk_cell m8 0).trans rfl
  have hf1_ := blk_frozen m8 1
  have hc1_ := (blk_cell m8 1).trans rfl
  have hf2_ := blk_frozen m8 2
  have hc2_ := (blk_cell m8 2).trans rfl
  have hf3_ := blk_frozen m8 3
  have hc3_ := (blk_cell m8 3).trans rfl
  have hf4_ := blk_frozen m8 4
  have hc4_ := (blk_cell m8 4).trans rfl
  have hf5_ := blk_frozen m8 5
  have hc5_ := (blk_cell m8 5).trans rfl
  have hf6_ := blk_frozen m8 6
  have hc6_ := (blk_cell m8 6).trans rfl
  have hf7_ := blk_frozen m8 7
  have hc7_ := (blk_cell m8 7).trans rfl
  refine skip_ (w1 := ?_) (by rfl) rfl ?_ ?_
  rotate_left
  · go_simp
    rfl
  clear hf0_ hc0_ hf1_ hc1_ hf2_ hc2_ hf3_ hc3_ hf4_ hc4_ hf5_ hc5_ hf6_ hc6_ hf7_ hc7_
  replace m3 : Blk (Wz.setCell ⟨g8, 0, none⟩ (.int .i64 Xk.f0)) g3 #[.int .i64 par, .int .i64 rate, .slice (some ad) xs.length c] 30 := blk_far (p := ⟨g8, 0, none⟩) m3 hn_3_8 _
  replace m7 : Blk (Wz.setCell ⟨g8, 0, none⟩ (.int .i64 Xk.f0)) g7 #[.int .i64 Xi.f0, .int .i64 Xi.f1, .int .i64 Xi.f2, .int .i64 Xi.f3, .int .i64 Xi.f4.f0, .int .i64 Xi.f4.f1, .int .i64 Xi.f5.f0, .int .i64 Xi.f5.f1] 46 := blk_far (p := ⟨g8, 0, none⟩) m7 hn_7_8 _
  replace m8 : Blk (Wz.setCell ⟨g8, 0, none⟩ (.int .i64 Xk.f0)) g8 #[.int .i64 Xk.f0, .int .i64 0, .int .i64 0, .int .i64 0, .int .i64 0, .int .i64 0, .int .i64 0, .int .i64 0] 46 := blk_put m8 0 _ rfl
  replace mB : Below w.heap.size w (Wz.setCell ⟨g8, 0, none⟩ (.int .i64 Xk.f0)) := mB.setCell (p := ⟨g8, 0, none⟩) hG8 _
  replace m3 : Blk ((Wz.setCell ⟨g8, 0, none⟩ (.int .i64 Xk.f0)).setCell ⟨g8, 1, none⟩ (.int .i64 Xk.f1)) g3 #[.int .i64 par, .int .i64 rate, .slice (some ad) xs.length c] 30 := blk_far (p := ⟨g8, 1, none⟩) m3 hn_3_8 _
  replace m7 : Blk ((Wz.setCell ⟨g8, 0, none⟩ (.int .i64 Xk.f0)).setCell ⟨g8, 1, none⟩ (.int .i64 Xk.f1)) g7 #[.int .i64 Xi.f0, .int .i64 Xi.f1, .int .i64 Xi.f2, .int .i64 Xi.f3, .int .i64 Xi.f4.f0, .int .i64 Xi.f4.f1, .int .i64 Xi.f5.f0, .int .i64 Xi.f5.f1] 46 := blk_far (p := ⟨g8, 1, none⟩) m7 hn_7_8 _
  replace m8 : Blk ((Wz.setCell ⟨g8, 0, none⟩ (.int .i64 Xk.f0)).setCell ⟨g8, 1, none⟩ (.int .i64 Xk.f1)) g8 #[.int .i64 Xk.f0, .int .i64 Xk.f1, .int .i64 0, .int .i64 0, .int .i64 0, .int .i64 0, .int .i64 0, .int .i64 0] 46 := blk_put m8 1 _ rfl
  replace mB : Below w.heap.size w ((Wz.setCell ⟨g8, 0, none⟩ (.int .i64 Xk.f0)).setCell ⟨g8, 1, none⟩ (.int .i64 Xk.f1)) := mB.setCell (p := ⟨g8, 1, none⟩) hG8 _
  replace m3 : Blk (((Wz.setCell ⟨g8, 0, none⟩ (.int .i64 Xk.f0)).setCell ⟨g8, 1, none⟩ (.int .i64 Xk.f1)).setCell ⟨g8, 2, none⟩ (.int .i64 Xk.f2)) g3 #[.int .i64 par, .int .i64 rate, .slice (some ad) xs.length c] 30 := blk_far (p := ⟨g8, 2, none⟩) m3 hn_3_8 _
  replace m7 : Blk (((Wz.setCell ⟨g8, 0, none⟩ (.int .i64 Xk.f0)).setCell ⟨g8, 1, none⟩ (.int .i64 Xk.f1)).setCell ⟨g8, 2, none⟩ (.int .i64 Xk.f2)) g7 #[.int .i64 Xi.f0, .int .i64 Xi.f1, .int .i64 Xi.f2, .int .i64 Xi.f3, .int .i64 Xi.f4.f0, .int .i64 Xi.f4.f1, .int .i64 Xi.f5.f0, .int .i64 Xi.f5.f1] 46 := blk_far (p := ⟨g8, 2, none⟩) m7 hn_7_8 _
  replace m8 : Blk (((Wz.setCell ⟨g8, 0, none⟩ (.int .i64 Xk.f0)).setCell ⟨g8, 1, none⟩ (.int .i64 Xk.f1)).setCell ⟨g8, 2, none⟩ (.int .i64 Xk.f2)) g8 #[.int .i64 Xk.f0, .int .i64 Xk.f1, .int .i64 Xk.f2, .int .i64 0, .int .i64 0, .int .i64 0, .int .i64 0, .int .i64 0] 46 := blk_put m8 2 _ rfl
  replace mB : Below w.heap.size w (((Wz.setCell ⟨g8, 0, none⟩ (.int .i64 Xk.f0)).setCell ⟨g8, 1, none⟩ (.int .i64 Xk.f1)).setCell ⟨g8, 2, none⟩ (.int .i64 Xk.f2)) := mB.setCell (p := ⟨g8, 2, none⟩) hG8 _
  replace m3 : Blk ((((Wz.setCell ⟨g8, 0, none⟩ (.int .i64 Xk.f0)).setCell ⟨g8, 1, none⟩ (.int .i64 Xk.f1)).setCell ⟨g8, 2, none⟩ (.int .i64 Xk.f2)).setCell ⟨g8, 3, none⟩ (.int .i64 Xk.f3)) g3 #[.int .i64 par, .int .i64 rate, .slice (some ad) xs.length c] 30 := blk_far (p := ⟨g8, 3, none⟩) m3 hn_3_8 _
  replace m7 : Blk ((((Wz.setCell ⟨g8, 0, none⟩ (.int .i64 Xk.f0)).setCell ⟨g8, 1, none⟩ (.int .i64 Xk.f1)).setCell ⟨g8, 2, none⟩ (.int .i64 Xk.f2)).setCell ⟨g8, 3, none⟩ (.int .i64 Xk.f3)) g7 #[.int .i64 Xi.f0, .int .i64 Xi.f1, .int .i64 Xi.f2, .int .i64 Xi.f3, .int .i64 Xi.f4.f0, .int .i64 Xi.f4.f1, .int .i64 Xi.f5.f0, .int .i64 Xi.f5.f1] 46 := blk_far (p := ⟨g8, 3, none⟩) m7 hn_7_8 _
  replace m8 : Blk ((((Wz.setCell ⟨g8, 0, none⟩ (.int .i64 Xk.f0)).setCell ⟨g8, 1, none⟩ (.int .i64 Xk.f1)).setCell ⟨g8, 2, none⟩ (.int .i64 Xk.f2)).setCell ⟨g8, 3, none⟩ (.int .i64 Xk.f3)) g8 #[.int .i64 Xk.f0, .int .i64 Xk.f1, .int .i64 Xk.f2, .int .i64 Xk.f3, .int .i64 0, .int .i64 0, .int .i64 0, .int .i64 0] 46 := blk_put m8 3 _ rfl
  replace mB : Below w.heap.size w ((((Wz.setCell ⟨g8, 0, none⟩ (.int .i64 Xk.f0)).setCell ⟨g8, 1, none⟩ (.int .i64 Xk.f1)).setCell ⟨g8, 2, none⟩ (.int .i64 Xk.f2)).setCell ⟨g8, 3, none⟩ (.int .i64 Xk.f3)) := mB.setCell (p := ⟨g8, 3, none⟩) hG8 _
  replace m3 : Blk (((((Wz.setCell ⟨g8, 0, none⟩ (.int .i64 Xk.f0)).setCell ⟨g8, 1, none⟩ (.int .i64 Xk.f1)).setCell ⟨g8, 2, none⟩ (.int .i64 Xk.f2)).setCell ⟨g8, 3, none⟩ (.int .i64 Xk.f3)).setCell ⟨g8, 4, none⟩ (.int .i64 Xk.f4.f0)) g3 #[.int .i64 par, .int .i64 rate, .slice (some ad) xs.length c] 30 := blk_far (p := ⟨g8, 4, none⟩) m3 hn_3_8 _
  replace m7 : Blk (((((Wz.setCell ⟨g8, 0, none⟩ (.int .i64 Xk.f0)).setCell ⟨g8, 1, none⟩ (.int .i64 Xk.f1)).setCell ⟨g8, 2, none⟩ (.int .i64 Xk.f2)).setCell ⟨g8, 3, none⟩ (.int .i64 Xk.f3)).setCell ⟨g8, 4, none⟩ (.int .i64 Xk.f4.f0)) g7 #[.int .i64 Xi.f0, .int .i64 Xi.f1, .int .i64 Xi.f2, .int .i64 Xi.f3, .int .i64 Xi.f4.f0, .int .i64 Xi.f4.f1, .int .i64 Xi.f5.f0, .int .i64 Xi.f5.f1] 46 := blk_far (p := ⟨g8, 4, none⟩) m7 hn_7_8 _
  replace m8 : Blk (((((Wz.setCell ⟨g8, 0, none⟩ (.int .i64 Xk.f0)).setCell ⟨g8, 1, none⟩ (.int .i64 Xk.f1)).setCell ⟨g8, 2, none⟩ (.int .i64 Xk.f2)).setCell ⟨g8, 3, none⟩ (.int .i64 Xk.f3)).setCell ⟨g8, 4, none⟩ (.int .i64 Xk.f4.f0)) g8 #[.int .i64 Xk.f0, .int .i64 Xk.f1, .int .i64 Xk.f2, .int .i64 Xk.f3, .int .i64 Xk.f4.f0, .int .i64 0, .int .i64 0, .int .i64 0] 46 := blk_put m8 4 _ rfl
  replace mB : Below w.heap.size w (((((Wz.setCell ⟨g8, 0, none⟩ (.int .i64 Xk.f0)).setCell ⟨g8, 1, none⟩ (.int .i64 Xk.f1)).setCell ⟨g8, 2, none⟩ (.int .i64 Xk.f2)).setCell ⟨g8, 3, none⟩ (.int .i64 Xk.f3)).setCell ⟨g8, 4, none⟩ (.int .i64 Xk.f4.f0)) := mB.setCell (p := ⟨g8, 4, none⟩) hG8 _
  replace m3 : Blk ((((((Wz.setCell ⟨g8, 0, none⟩ (.int .i64 Xk.f0)).setCell ⟨g8, 1, none⟩ (.int .i64 Xk.f1)).setCell ⟨g8, 2, none⟩ (.int .i64 Xk.f2)).setCell ⟨g8, 3, none⟩ (.int .i64 Xk.f3)).setCell ⟨g8, 4, none⟩ (.int .i64 Xk.f4.f0)).setCell ⟨g8, 5, none⟩ (.int .i64 Xk.f4.f1)) g3 #[.int .i64 par, .int .i64 rate, .slice (some ad) xs.length c] 30 := blk_far (p := ⟨g8, 5, none⟩) m3 hn_3_8 _
  replace m7 : Blk ((((((Wz.setCell ⟨g8, 0, none⟩ (.int .i64 Xk.f0)).setCell ⟨g8, 1, none⟩ (.int .i64 Xk.f1)).setCell ⟨g8, 2, none⟩ (.int .i64 Xk.f2)).setCell ⟨g8, 3, none⟩ (.int .i64 Xk.f3)).setCell ⟨g8, 4, none⟩ (.int .i64 Xk.f4.f0)).setCell ⟨g8, 5, none⟩ (.int .i64 Xk.f4.f1)) g7 #[.int .i64 Xi.f0, .int .i64 Xi.f1, .int .i64 Xi.f2, .int .i64 Xi.f3, .int .i64 Xi.f4.f0, .int .i64 Xi.f4.f1, .int .i64 Xi.f5.f0, .int .i64 Xi.f5.f1] 46 := blk_far (p := ⟨g8, 5, none⟩) m7 hn_7_8 _
  replace m8 : Blk ((((((Wz.setCell ⟨g8, 0, none⟩ (.int .i64 Xk.f0)).setCell ⟨g8, 1, none⟩ (.int .i64 Xk.f1)).setCell ⟨g8, 2, none⟩ (.int .i64 Xk.f2)).setCell ⟨g8, 3, none⟩ (.int .i64 Xk.f3)).setCell ⟨g8, 4, none⟩ (.int .i64 Xk.f4.f0)).setCell ⟨g8, 5, none⟩ (.int .i64 Xk.f4.f1)) g8 #[.int .i64 Xk.f0, .int .i64 Xk.f1, .int .i64 Xk.f2, .int .i64 Xk.f3, .int .i64 Xk.f4.f0, .int .i64 Xk.f4.f1, .int .i64 0, .int .i64 0] 46 := blk_put m8 5 _ rfl
  replace mB : Below w.heap.size w ((((((Wz.setCell ⟨g8, 0, none⟩ (.int .i64 Xk.f0)).setCell ⟨g8, 1, none⟩ (.int .i64 Xk.f1)).setCell ⟨g8, 2, none⟩ (.int .i64 Xk.f2)).setCell ⟨g8, 3, none⟩ (.int .i64 Xk.f3)).setCell ⟨g8, 4, none⟩ (.int .i64 Xk.f4.f0)).setCell ⟨g8, 5, none⟩ (.int .i64 Xk.f4.f1)) := mB.setCell (p := ⟨g8, 5, none⟩) hG8 _
  replace m3 : Blk (((((((Wz.setCell ⟨g8, 0, none⟩ (.int .i64 Xk.f0)).setCell ⟨g8, 1, none⟩ (.int .i64 Xk.f1)).setCell ⟨g8, 2, none⟩ (.int .i64 Xk.f2)).setCell ⟨g8, 3, none⟩ (.int .i64 Xk.f3)).setCell ⟨g8, 4, none⟩ (.int .i64 Xk.f4.f0)).setCell ⟨g8, 5, none⟩ (.int .i64 Xk.f4.f1)).setCell ⟨g8, 6, none⟩ (.int .i64 Xk.f5.f0)) g3 #[.int .i64 par, .int .i64 rate, .slice (some ad) xs.length c] 30 := blk_far (p := ⟨g8, 6, none⟩) m3 hn_3_8 _
  replace m7 : Blk (((((((Wz.setCell ⟨g8, 0, none⟩ (.int .i64 Xk.f0)).setCell ⟨g8, 1, none⟩ (.int .i64 Xk.f1)).setCell ⟨g8, 2, none⟩ (.int .i64 Xk.f2)).setCell ⟨g8, 3, none⟩ (.int .i64 Xk.f3)).setCell ⟨g8, 4, none⟩ (.int .i64 Xk.f4.f0)).setCell ⟨g8, 5, none⟩ (.int .i64 Xk.f4.f1)).setCell ⟨g8, 6, none⟩ (.int .i64 Xk.f5.f0)) g7 #[.int .i64 Xi.f0, .int .i64 Xi.f1, .int .i64 Xi.f2, .int .i64 Xi.f3, .int .i64 Xi.f4.f0, .int .i64 Xi.f4.f1, .int .i64 Xi.f5.f0, .int .i64 Xi.f5.f1] 46 := blk_far (p := ⟨g8, 6, none⟩) m7 hn_7_8 _
  replace m8 : Blk (((((((Wz.setCell ⟨g8, 0, none⟩ (.int .i64 Xk.f0)).setCell ⟨g8, 1, none⟩ (.int .i64 Xk.f1)).setCell ⟨g8, 2, none⟩ (.int .i64 Xk.f2)).setCell ⟨g8, 3, none⟩ (.int .i64 Xk.f3)).setCell ⟨g8, 4, none⟩ (.int .i64 Xk.f4.f0)).setCell ⟨g8, 5, none⟩ (.int .i64 Xk.f4.f1)).setCell ⟨g8, 6, none⟩ (.int .i64 Xk.f5.f0)) g8 #[.int .i64 Xk.f0, .int .i64 Xk.f1, .int .i64 Xk.f2, .int .i64 Xk.f3, .int .i64 Xk.f4.f0, .int .i64 Xk.f4.f1, .int .i64 Xk.f5.f0, .int .i64 0] 46 := blk_put m8 6 _ rfl
  replace mB : Below w.heap.size w (((((((Wz.setCell ⟨g8, 0, none⟩ (.int .i64 Xk.f0)).setCell ⟨g8, 1, none⟩ (.int .i64 Xk.f1)).setCell ⟨g8, 2, none⟩ (.int .i64 Xk.f2)).setCell ⟨g8, 3, none⟩ (.int .i64 Xk.f3)).setCell ⟨g8, 4, none⟩ (.int .i64 Xk.f4.f0)).setCell ⟨g8, 5, none⟩ (.int .i64 Xk.f4.f1)).setCell ⟨g8, 6, none⟩ (.int .i64 Xk.f5.f0)) := mB.setCell (p := ⟨g8, 6, none⟩) hG8 _
  replace m3 : Blk ((((((((Wz.setCell ⟨g8, 0, none⟩ (.int .i64 Xk.f0)).setCell ⟨g8, 1, none⟩ (.int .i64 Xk.f1)).setCell ⟨g8, 2, none⟩ (.int .i64 Xk.f2)).setCell ⟨g8, 3, none⟩ (.int .i64 Xk.f3)).setCell ⟨g8, 4, none⟩ (.int .i64 Xk.f4.f0)).setCell ⟨g8, 5, none⟩ (.int .i64 Xk.f4.f1)).setCell ⟨g8, 6, none⟩ (.int .i64 Xk.f5.f0)).setCell ⟨g8, 7, none⟩ (.int .i64 Xk.f5.f1)) g3 #[.int .i64 par, .int .i64 rate, .slice (some ad) xs.length c] 30 := blk_far (p := ⟨g8, 7, none⟩) m3 hn_3_8 _
  replace m7 : Blk ((((((((Wz.setCell ⟨g8, 0, none⟩ (.int .i64 Xk.f0)).setCell ⟨g8, 1, none⟩ (.int .i64 Xk.f1)).setCell ⟨g8, 2, none⟩ (.int .i64 Xk.f2)).setCell ⟨g8, 3, none⟩ (.int .i64 Xk.f3)).setCell ⟨g8, 4, none⟩ (.int .i64 Xk.f4.f0)).setCell ⟨g8, 5, none⟩ (.int .i64 Xk.f4.f1)).setCell ⟨g8, 6, none⟩ (.int .i64 Xk.f5.f0)).setCell ⟨g8, 7, none⟩ (.int .i64 Xk.f5.f1)) g7 #[.int .i64 Xi.f0, .int .i64 Xi.f1, .int .i64 Xi.f2, .int .i64 Xi.f3, .int .i64 Xi.f4.f0, .int .i64 Xi.f4.f1, .int .i64 Xi.f5.f0, .int .i64 Xi.f5.f1] 46 := blk_far (p := ⟨g8, 7, none⟩) m7 hn_7_8 _
  replace m8 : Blk ((((((((Wz.setCell ⟨g8, 0, none⟩ (.int .i64 Xk.f0)).setCell ⟨g8, 1, none⟩ (.int .i64 Xk.f1)).setCell ⟨g8, 2, none⟩ (.int .i64 Xk.f2)).setCell ⟨g8, 3, none⟩ (.int .i64 Xk.f3)).setCell ⟨g8, 4, none⟩ (.int .i64 Xk.f4.f0)).setCell ⟨g8, 5, none⟩ (.int .i64 Xk.f4.f1)).setCell ⟨g8, 6, none⟩ (.int .i64 Xk.f5.f0)).setCell ⟨g8, 7, none⟩ (.int .i64 Xk.f5.f1)) g8 #[.int .i64 Xk.f0, .int .i64 Xk.f1, .int .i64 Xk.f2, .int .i64 Xk.f3, .int .i64 Xk.f4.f0, .int .i64 Xk.f4.f1, .int .i64 Xk.f5.f0, .int .i64 Xk.f5.f1] 46 := blk_put m8 7 _ rfl
  replace mB : Below w.heap.size w ((((((((Wz.setCell ⟨g8, 0, none⟩ (.int .i64 Xk.f0)).setCell ⟨g8, 1, none⟩ (.int .i64 Xk.f1)).setCell ⟨g8, 2, none⟩ (.int .i64 Xk.f2)).setCell ⟨g8, 3, none⟩ (.int .i64 Xk.f3)).setCell ⟨g8, 4, none⟩ (.int .i64 Xk.f4.f0)).setCell ⟨g8, 5, none⟩ (.int .i64 Xk.f4.f1)).setCell ⟨g8, 6, none⟩ (.int .i64 Xk.f5.f0)).setCell ⟨g8, 7, none⟩ (.int .i64 Xk.f5.f1)) := mB.setCell (p := ⟨g8, 7, none⟩) hG8 _
  generalize hE_ : ((((((((Wz.setCell ⟨g8, 0, none⟩ (.int .i64 Xk.f0)).setCell ⟨g8, 1, none⟩ (.int .i64 Xk.f1)).setCell ⟨g8, 2, none⟩ (.int .i64 Xk.f2)).setCell ⟨g8, 3, none⟩ (.int .i64 Xk.f3)).setCell ⟨g8, 4, none⟩ (.int .i64 Xk.f4.f0)).setCell ⟨g8, 5, none⟩ (.int .i64 Xk.f4.f1)).setCell ⟨g8, 6, none⟩ (.int .i64 Xk.f5.f0)).setCell ⟨g8, 7, none⟩ (.int .i64 Xk.f5.f1)) = Wy at m3 m7 m8 mB ⊢
  clear hE_
  refine hK.out _ _ ⟨((blk_cell m3 0).trans rfl), ((blk_cell m3 1).trans rfl), ((blk_cell m3 2).trans rfl), ((mB.cell (World.block_lt_of_cell? w _ hx0)).trans hx0), ((mB.cell (World.block_lt_of_cell? w _ hx1)).trans hx1), ((mB.cell (World.block_lt_of_cell? w _ hx2)).trans hx2), ((mB.cell (World.block_lt_of_cell? w _ hx3)).trans hx3), ((mB.cell (World.block_lt_of_cell? w _ hx4)).trans hx4), ((mB.cell (World.block_lt_of_cell? w _ hx5)).trans hx5), ((mB.cell (World.block_lt_of_cell? w _ hx6)).trans hx6), ((mB.cell (World.block_lt_of_cell? w _ hx7)).trans hx7), ((mB.cell (World.block_lt_of_cell? w _ hy0)).trans hy0), ((mB.cell (World.block_lt_of_cell? w _ hy1)).trans hy1), ((mB.cell (World.block_lt_of_cell? w _ hy2)).trans hy2), ((mB.cell (World.block_lt_of_cell? w _ hy3)).trans hy3), ((mB.cell (World.block_lt_of_cell? w _ hy4)).trans hy4), ((mB.cell (World.block_lt_of_cell? w _ hy5)).trans hy5), ((mB.cell (World.block_lt_of_cell? w _ hy6)).trans hy6), ((mB.cell (World.block_lt_of_cell? w _ hy7)).trans hy7)⟩ (fun hHeld => ?_)
  clear hK K
  refine done_ (by kernel_rfl) ?_
  clear hx0 hx1 hx2 hx3 hx4 hx5 hx6 hx7 hy0 hy1 hy2 hy3 hy4 hy5 hy6 hy7 h0 h1 h2 h3
  go_wp2
  try clear hHeld
  generalize Wy = W4 at m3 m7 m8 mB ⊢
  replace m3 := blk_drew m3
  replace m7 := blk_drew m7
  replace m8 := blk_drew m8
  replace mB := below_drew1 mB
  refine start_ (n := 20) (S := fun w' => w'.cell? ⟨g3, 0, none⟩ = some (.int .i64 par) ∧ w'.cell? ⟨g3, 1, none⟩ = some (.int .i64 rate) ∧ w'.cell? ⟨g3, 2, none⟩ = some (.slice (some ad) xs.length c) ∧ w'.cell? ⟨g7, 0, none⟩ = some (.int .i64 Xi.f0) ∧ w'.cell? ⟨g7, 1, none⟩ = some (.int .i64 Xi.f1) ∧ w'.cell? ⟨g7, 2, none⟩ = some (.int .i64 Xi.f2) ∧ w'.cell? ⟨g7, 3, none⟩ = some (.int .i64 Xi.f3) ∧ w'.cell? ⟨g7, 4, none⟩ = some (.int .i64 Xi.f4.f0) ∧ w'.cell? ⟨g7, 5, none⟩ = some (.int .i64 Xi.f4.f1) ∧ w'.cell? ⟨g7, 6, none⟩ = some (.int .i64 Xi.f5.f0) ∧ w'.cell? ⟨g7, 7, none⟩ = some (.int .i64 Xi.f5.f1) ∧ w'.cell? ⟨g8, 0, none⟩ = some (.int .i64 Xk.f0) ∧ w'.cell? ⟨g8, 1, none⟩ = some (.int .i64 Xk.f1) ∧ w'.cell? ⟨g8, 2, none⟩ = some (.int .i64 Xk.f2) ∧ w'.cell? ⟨g8, 3, none⟩ = some (.int .i64 Xk.f3) ∧ w'.cell? ⟨g8, 4, none⟩ = some (.int .i64 Xk.f4.f0) ∧ w'.cell? ⟨g8, 5, none⟩ = some (.int .i64 Xk.f4.f1) ∧ w'.cell? ⟨g8, 6, none⟩ = some (.int .i64 Xk.f5.f0) ∧ w'.cell? ⟨g8, 7, none⟩ = some (.int .i64 Xk.f5.f1)) (ds := [19]) #[false, false, false, false, false, false, false, false, false, false, false, false, false, false, false, false, false, false, false, false] (by kernel_rfl) rfl rfl ⟨((blk_cell m3 0).trans rfl), ((blk_cell m3 1).trans rfl), ((blk_cell m3 2).trans rfl), ((blk_cell m7 0).trans rfl), ((blk_cell m7 1).trans rfl), ((blk_cell m7 2).trans rfl), ((blk_cell m7 3).trans rfl), ((blk_cell m7 4).trans rfl), ((blk_cell m7 5).trans rfl), ((blk_cell m7 6).trans rfl), ((blk_cell m7 7).trans rfl), ((blk_cell m8 0).trans rfl), ((blk_cell m8 1).trans rfl), ((blk_cell m8 2).trans rfl), ((blk_cell m8 3).trans rfl), ((blk_cell m8 4).trans rfl), ((blk_cell m8 5).trans rfl), ((blk_cell m8 6).trans rfl), ((blk_cell m8 7).trans rfl)⟩ (fun hHeld => ?_)
  generalize hWd : World.drew _ = Wx at *
  clear hWd
  refine pure_ (i := 1) (N := some 21) (v := ?_) (a' := ?_) #[false, true, false, false, false, false, false, false, false, false, false, false, false, false, false, false, false, false, false, false] rfl rfl (by kernel_rfl) (fun _ _ _ h => h) (Or.inl ⟨by rfl, ?_⟩) ?_ ?_
  rotate_left
  · intro w'
    go_simp
    with_reducible rfl
  rotate_left
  · simp only [Act.put, List.setIfInBounds_toArray, List.set_cons_zero, List.set_cons_succ, i64_w, i32_w]
    rfl
  refine pure_ (i := 4) (N := some 24) (v := ?_) (a' := ?_) #[false, true, false, false, true, false, false, false, false, false, false, false, false, false, false, false, false, false, false, false] rfl rfl (by kernel_rfl) (fun _ _ _ h => h) (Or.inl ⟨by rfl, ?_⟩) ?_ ?_
  rotate_left
  · intro w'
    go_simp
    with_reducible rfl
  rotate_left
  · simp only [Act.put, List.setIfInBounds_toArray, List.set_cons_zero, List.set_cons_succ, i64_w, i32_w]
    rfl
  refine pure_ (i := 6) (N := some 26) (v := ?_) (a' := ?_) #[false, true, false, false, true, false, true, false, false, false, false, false, false, false, false, false, false, false, false, false] rfl rfl (by kernel_rfl) (fun _ _ _ h => h) (Or.inl ⟨by rfl, ?_⟩) ?_ ?_
  rotate_left
  · intro w'
    go_simp
    with_reducible rfl
  rotate_left
  · simp only [Act.put, List.setIfInBounds_toArray, List.set_cons_zero, List.set_cons_succ, i64_w, i32_w]
    rfl
  refine pure_ (i := 8) (N := some 28) (v := ?_) (a' := ?_) #[false, true, false, false, true, false, true, false, true, false, false, false, false, false, false, false, false, false, false, false] rfl rfl (by kernel_rfl) (fun _ _ _ h => h) (Or.inl ⟨by rfl, ?_⟩) ?_ ?_
  rotate_left
  · intro w'
    go_simp
    with_reducible rfl
  rotate_left
  · simp only [Act.put, List.setIfInBounds_toArray, List.set_cons_zero, List.set_cons_succ, i64_w, i32_w]
    rfl
  refine pure_ (i := 14) (N := some 34) (v := ?_) (a' := ?_) #[false, true, false, false, true, false, true, false, true, false, false, false, false, false, true, false, false, false, false, false] rfl rfl (by kernel_rfl) (fun _ _ _ h => h) (Or.inl ⟨by rfl, ?_⟩) ?_ ?_
  rotate_left
  · intro w'
    go_simp
    with_reducible rfl
  rotate_left
  · simp only [Act.put, List.setIfInBounds_toArray, List.set_cons_zero, List.set_cons_succ, i64_w, i32_w]
    rfl
  refine take_ (i := 0) (N := some 20) (v := ?_) (a' := ?_) #[true, true, false, false, true, false, true, false, true, false, false, false, false, false, true, false, false, false, false, false] rfl rfl (by kernel_rfl) (fun _ _ _ h => h) (Or.inl ⟨by rfl, ?_⟩) hHeld ?_ ?_
  rotate_left
  · rintro w' ⟨s0, s1, s2, s3, s4, s5, s6, s7, s8, s9, s10, s11, s12, s13, s14, s15, s16, s17, s18⟩
    go_simp
    with_reducible rfl
  rotate_left
  · simp only [Act.put, List.setIfInBounds_toArray, List.set_cons_zero, List.set_cons_succ, i64_w, i32_w]
    rfl
  refine take_ (i := 2) (N := some 22) (v := ?_) (a' := ?_) #[true, true, true, false, true, false, true, false, true, false, false, false, false, false, true, false, false, false, false, false] rfl rfl (by kernel_rfl) (fun _ _ _ h => h) (Or.inl ⟨by rfl, ?_⟩) hHeld ?_ ?_
  rotate_left
  · rintro w' ⟨s0, s1, s2, s3, s4, s5, s6, s7, s8, s9, s10, s11, s12, s13, s14, s15, s16, s17, s18⟩
    go_simp
    with_reducible rfl
  rotate_left
  · simp only [Act.put, List.setIfInBounds_toArray, List.set_cons_zero, List.set_cons_succ, i64_w, i32_w]
    rfl
  refine take_ (i := 5) (N := some 25) (v := ?_) (a' := ?_) #[true, true, true, false, true, true, true, false, true, false, false, false, false, false, true, false, false, false, false, false] rfl rfl (by kernel_rfl) (fun _ _ _ h => h) (Or.inl ⟨by rfl, ?_⟩) hHeld ?_ ?_
  rotate_left
  · rintro w' ⟨s0, s1, s2, s3, s4, s5, s6, s7, s8, s9, s10, s11, s12, s13, s14, s15, s16, s17, s18⟩
    go_simp
    with_reducible rfl
  rotate_left
  · simp only [Act.put, List.setIfInBounds_toArray, List.set_cons_zero, List.set_cons_succ, i64_w, i32_w]
    rfl
  refine take_ (i := 7) (N := some 27) (v := ?_) (a' := ?_) #[true, true, true, false, true, true, true, true, true, false, false, false, false, false, true, false, false, false, false, false] rfl rfl (by kernel_rfl) (fun _ _ _ h => h) (Or.inl ⟨by rfl, ?_⟩) hHeld ?_ ?_
  rotate_left
  · rintro w' ⟨s0, s1, s2, s3, s4, s5, s6, s7, s8, s9, s10, s11, s12, s13, s14, s15, s16, s17, s18⟩
    go_simp
    with_reducible rfl
  rotate_left
  · simp only [Act.put, List.setIfInBounds_toArray, List.set_cons_zero, List.set_cons_succ, i64_w, i32_w]
    rfl
  refine take_ (i := 9) (N := some 29) (v := ?_) (a' := ?_) #[true, true, true, false, true, true, true, true, true, true, false, false, false, false, true, false, false, false, false, false] rfl rfl (by kernel_rfl) (fun _ _ _ h => h) (Or.inl ⟨by rfl, ?_⟩) hHeld ?_ ?_
  rotate_left
  · rintro w' ⟨s0, s1, s2, s3, s4, s5, s6, s7, s8, s9, s10, s11, s12, s13, s14, s15, s16, s17, s18⟩
    go_simp
    with_reducible rfl
  rotate_left
  · simp only [Act.put, List.setIfInBounds_toArray, List.set_cons_zero, List.set_cons_succ, i64_w, i32_w]
    rfl
  refine pure_ (i := 10) (N := some 30) (v := ?_) (a' := ?_) #[true, true, true, false, true, true, true, true, true, true, true, false, false, false, true, false, false, false, false, false] rfl rfl (by kernel_rfl) (fun _ _ _ h => h) (Or.inl ⟨by rfl, ?_⟩) ?_ ?_
  rotate_left
  · intro w'
    go_simp
    with_reducible rfl
  rotate_left
  · simp only [Act.put, List.setIfInBounds_toArray, List.set_cons_zero, List.set_cons_succ, i64_w, i32_w]
    rfl
  refine take_ (i := 13) (N := some 33) (v := ?_) (a' := ?_) #[true, true, true, false, true, true, true, true, true, true, true, false, false, true, true, false, false, false, false, false] rfl rfl (by kernel_rfl) (fun _ _ _ h => h) (Or.inl ⟨by rfl, ?_⟩) hHeld ?_ ?_
  rotate_left
  · rintro w' ⟨s0, s1, s2, s3, s4, s5, s6, s7, s8, s9, s10, s11, s12, s13, s14, s15, s16, s17, s18⟩
    go_simp
    with_reducible rfl
  rotate_left
  · simp only [Act.put, List.setIfInBounds_toArray, List.set_cons_zero, List.set_cons_succ, i64_w, i32_w]
    rfl
  refine take_ (i := 15) (N := some 35) (v := ?_) (a' := ?_) #[true, true, true, false, true, true, true, true, true, true, true, false, false, true, true, true, false, false, false, false] rfl rfl (by kernel_rfl) (fun _ _ _ h => h) (Or.inl ⟨by rfl, ?_⟩) hHeld ?_ ?_
  rotate_left
  · rintro w' ⟨s0, s1, s2, s3, s4, s5, s6, s7, s8, s9, s10, s11, s12, s13, s14, s15, s16, s17, s18⟩
    go_simp
    with_reducible rfl
  rotate_left
  · simp only [Act.put, List.setIfInBounds_toArray, List.set_cons_zero, List.set_cons_succ, i64_w, i32_w]
    rfl
  refine join_ (σ := Nat) 1 #[true, true, true, true, true, true, true, true, true, true, true, true, true, true, true, true, true, true, true, false] (fun s => [(23, .agg #[.int .i64 (offR Xi rate).1, .int .i64 (offR Xi rate).2]), (31, .int .i64 (growR rate (wrap64 (Xi.f3 - Xk.f3)))), (32, .agg #[.int .i64 (wrap64 ((offR Xi rate).1 - (growR rate (wrap64 (Xi.f3 - Xk.f3))))), .int .i64 (wrap64 ((offR Xi rate).2 + (growR rate (wrap64 (Xi.f3 - Xk.f3)))))]), (36, .agg #[.int .i64 (offR Xk rate).1, .int .i64 (offR Xk rate).2]), (37, .agg #[.int .i64 (mx (wrap64 ((offR Xi rate).1 - (growR rate (wrap64 (Xi.f3 - Xk.f3))))) (offR Xk rate).1), .int .i64 (mn (wrap64 ((offR Xi rate).2 + (growR rate (wrap64 (Xi.f3 - Xk.f3))))) (offR Xk rate).2)]), (9, .pointer (some ⟨s, 0, none⟩))]) (fun s w' => Blk w' g3 #[.int .i64 par, .int .i64 rate, .slice (some ad) xs.length c] 30 ∧ Blk w' g7 #[.int .i64 Xi.f0, .int .i64 Xi.f1, .int .i64 Xi.f2, .int .i64 Xi.f3, .int .i64 Xi.f4.f0, .int .i64 Xi.f4.f1, .int .i64 Xi.f5.f0, .int .i64 Xi.f5.f1] 46 ∧ Blk w' g8 #[.int .i64 Xk.f0, .int .i64 Xk.f1, .int .i64 Xk.f2, .int .i64 Xk.f3, .int .i64 Xk.f4.f0, .int .i64 Xk.f4.f1, .int .i64 Xk.f5.f0, .int .i64 Xk.f5.f1] 46 ∧ Blk w' (s) #[.int .i64 0, .int .i64 0] 35 ∧ Below w.heap.size w w' ∧ w.heap.size ≤ s ∧ g3 ≠ s ∧ g7 ≠ s ∧ g8 ≠ s) ?_ ?_
  rotate_left
  · intro hCont
    refine two_ (i := 3) (j := 18) (Ni := some 23) (Nj := some 9) #[true, true, true, true, true, true, true, true, true, true, true, false, false, true, true, true, false, false, false, false] #[true, true, true, false, true, true, true, true, true, true, true, false, false, true, true, true, false, false, true, false] rfl rfl rfl rfl (by kernel_rfl) (by decide) (by decide) (fun K hK => ?_) (fun K hK => ?_)
    · skip
      have hcon_ := offR_any Xi rate Wx
      refine goes_ Try.func67 (by kernel_rfl) rfl #[.agg #[.int .i64 Xi.f0, .int .i64 Xi.f1, .int .i64 Xi.f2, .int .i64 Xi.f3, .int .i64 Xi.f4.f0, .int .i64 Xi.f4.f1, .int .i64 Xi.f5.f0, .int .i64 Xi.f5.f1], .int .i64 rate] (by rfl) rfl rfl (by simp only [List.map_toArray, List.map_cons, List.map_nil]; rfl) ?_
      with_reducible refine (hcon_).mono ?_
      rintro e w3 ⟨rfl, hb⟩
      refine ⟨_, rfl, ?_⟩
      clear hcon_
      replace m3 := blk_below m3 hb
      replace m7 := blk_below m7 hb
      replace m8 := blk_below m8 hb
      replace mB := below_step mB hb
      clear hb
      refine hK.out _ _ ⟨((blk_cell m3 0).trans rfl), ((blk_cell m3 1).trans rfl), ((blk_cell m3 2).trans rfl), ((blk_cell m7 0).trans rfl), ((blk_cell m7 1).trans rfl), ((blk_cell m7 2).trans rfl), ((blk_cell m7 3).trans rfl), ((blk_cell m7 4).trans rfl), ((blk_cell m7 5).trans rfl), ((blk_cell m7 6).trans rfl), ((blk_cell m7 7).trans rfl), ((blk_cell m8 0).trans rfl), ((blk_cell m8 1).trans rfl), ((blk_cell m8 2).trans rfl), ((blk_cell m8 3).trans rfl), ((blk_cell m8 4).trans rfl), ((blk_cell m8 5).trans rfl), ((blk_cell m8 6).trans rfl), ((blk_cell m8 7).trans rfl)⟩ (fun hHeld => ?_)
      clear hK K
      refine norm_ (a' := ?_) ?_ ?_
      rotate_left
      · show Act.put _ (some 23) _ = _
        simp only [Act.put, List.setIfInBounds_toArray, List.set_cons_zero, List.set_cons_succ, i64_w, i32_w]
        rfl
      refine two_ (i := 11) (j := 18) (Ni := some 31) (Nj := some 9) #[true, true, true, true, true, true, true, true, true, true, true, true, false, true, true, true, false, false, false, false] #[true, true, true, true, true, true, true, true, true, true, true, false, false, true, true, true, false, false, true, false] rfl rfl rfl rfl (by kernel_rfl) (by decide) (by decide) (fun K hK => ?_) (fun K hK => ?_)
      · skip
        have hcon_ := growR_any rate (wrap64 (Xi.f3 - Xk.f3)) w3
        refine goes_ Try.func24 (by kernel_rfl) rfl #[.int .i64 rate, .int .i64 (wrap64 (Xi.f3 - Xk.f3))] (by rfl) rfl rfl (by simp only [List.map_toArray, List.map_cons, List.map_nil]; rfl) ?_
        with_reducible refine (hcon_).mono ?_
        rintro e w11 ⟨rfl, hb⟩
        refine ⟨_, rfl, ?_⟩
        clear hcon_
        replace m3 := blk_below m3 hb
        replace m7 := blk_below m7 hb
        replace m8 := blk_below m8 hb
        replace mB := below_step mB hb
        clear hb
        refine hK.out _ _ ⟨((blk_cell m3 0).trans rfl), ((blk_cell m3 1).trans rfl), ((blk_cell m3 2).trans rfl), ((blk_cell m7 0).trans rfl), ((blk_cell m7 1).trans rfl), ((blk_cell m7 2).trans rfl), ((blk_cell m7 3).trans rfl), ((blk_cell m7 4).trans rfl), ((blk_cell m7 5).trans rfl), ((blk_cell m7 6).trans rfl), ((blk_cell m7 7).trans rfl), ((blk_cell m8 0).trans rfl), ((blk_cell m8 1).trans rfl), ((blk_cell m8 2).trans rfl), ((blk_cell m8 3).trans rfl), ((blk_cell m8 4).trans rfl), ((blk_cell m8 5).trans rfl), ((blk_cell m8 6).trans rfl), ((blk_cell m8 7).trans rfl)⟩ (fun hHeld => ?_)
        clear hK K
        refine norm_ (a' := ?_) ?_ ?_
        rotate_left
        · show Act.put _ (some 31) _ = _
          simp only [Act.put, List.setIfInBounds_toArray, List.set_cons_zero, List.set_cons_succ, i64_w, i32_w]
          rfl
        refine two_ (i := 12) (j := 18) (Ni := some 32) (Nj := some 9) #[true, true, true, true, true, true, true, true, true, true, true, true, true, true, true, true, false, false, false, false] #[true, true, true, true, true, true, true, true, true, true, true, true, false, true, true, true, false, false, true, false] rfl rfl rfl rfl (by kernel_rfl) (by decide) (by decide) (fun K hK => ?_) (fun K hK => ?_)
        · skip
          have hcon_ := grownR_any (offR Xi rate).1 (offR Xi rate).2 (growR rate (wrap64 (Xi.f3 - Xk.f3))) w11
          refine goes_ Try.func95 (by kernel_rfl) rfl #[.agg #[.int .i64 (offR Xi rate).1, .int .i64 (offR Xi rate).2], .int .i64 (growR rate (wrap64 (Xi.f3 - Xk.f3)))] (by rfl) rfl rfl (by simp only [List.map_toArray, List.map_cons, List.map_nil]; rfl) ?_
          with_reducible refine (hcon_).mono ?_
          rintro e w12 ⟨rfl, hb⟩
          refine ⟨_, rfl, ?_⟩
          clear hcon_
          replace m3 := blk_below m3 hb
          replace m7 := blk_below m7 hb
          replace m8 := blk_below m8 hb
          replace mB := below_step mB hb
          clear hb
          refine hK.out _ _ ⟨((blk_cell m3 0).trans rfl), ((blk_cell m3 1).trans rfl), ((blk_cell m3 2).trans rfl), ((blk_cell m7 0).trans rfl), ((blk_cell m7 1).trans rfl), ((blk_cell m7 2).trans rfl), ((blk_cell m7 3).trans rfl), ((blk_cell m7 4).trans rfl), ((blk_cell m7 5).trans rfl), ((blk_cell m7 6).trans rfl), ((blk_cell m7 7).trans rfl), ((blk_cell m8 0).trans rfl), ((blk_cell m8 1).trans rfl), ((blk_cell m8 2).trans rfl), ((blk_cell m8 3).trans rfl), ((blk_cell m8 4).trans rfl), ((blk_cell m8 5).trans rfl), ((blk_cell m8 6).trans rfl), ((blk_cell m8 7).trans rfl)⟩ (fun hHeld => ?_)
          clear hK K
          refine norm_ (a' := ?_) ?_ ?_
          rotate_left
          · show Act.put _ (some 32) _ = _
            simp only [Act.put, List.setIfInBounds_toArray, List.set_cons_zero, List.set_cons_succ, i64_w, i32_w]
            rfl
          refine two_ (i := 16) (j := 18) (Ni := some 36) (Nj := some 9) #[true, true, true, true, true, true, true, true, true, true, true, true, true, true, true, true, true, false, false, false] #[true, true, true, true, true, true, true, true, true, true, true, true, true, true, true, true, false, false, true, false] rfl rfl rfl rfl (by kernel_rfl) (by decide) (by decide) (fun K hK => ?_) (fun K hK => ?_)
          · skip
            have hcon_ := offR_any Xk rate w12
            refine goes_ Try.func67 (by kernel_rfl) rfl #[.agg #[.int .i64 Xk.f0, .int .i64 Xk.f1, .int .i64 Xk.f2, .int .i64 Xk.f3, .int .i64 Xk.f4.f0, .int .i64 Xk.f4.f1, .int .i64 Xk.f5.f0, .int .i64 Xk.f5.f1], .int .i64 rate] (by rfl) rfl rfl (by simp only [List.map_toArray, List.map_cons, List.map_nil]; rfl) ?_
            with_reducible refine (hcon_).mono ?_
            rintro e w16 ⟨rfl, hb⟩
            refine ⟨_, rfl, ?_⟩
            clear hcon_
            replace m3 := blk_below m3 hb
            replace m7 := blk_below m7 hb
            replace m8 := blk_below m8 hb
            replace mB := below_step mB hb
            clear hb
            refine hK.out _ _ ⟨((blk_cell m3 0).trans rfl), ((blk_cell m3 1).trans rfl), ((blk_cell m3 2).trans rfl), ((blk_cell m7 0).trans rfl), ((blk_cell m7 1).trans rfl), ((blk_cell m7 2).trans rfl), ((blk_cell m7 3).trans rfl), ((blk_cell m7 4).trans rfl), ((blk_cell m7 5).trans rfl), ((blk_cell m7 6).trans rfl), ((blk_cell m7 7).trans rfl), ((blk_cell m8 0).trans rfl), ((blk_cell m8 1).trans rfl), ((blk_cell m8 2).trans rfl), ((blk_cell m8 3).trans rfl), ((blk_cell m8 4).trans rfl), ((blk_cell m8 5).trans rfl), ((blk_cell m8 6).trans rfl), ((blk_cell m8 7).trans rfl)⟩ (fun hHeld => ?_)
            clear hK K
            refine norm_ (a' := ?_) ?_ ?_
            rotate_left
            · show Act.put _ (some 36) _ = _
              simp only [Act.put, List.setIfInBounds_toArray, List.set_cons_zero, List.set_cons_succ, i64_w, i32_w]
              rfl
            refine two_ (i := 17) (j := 18) (Ni := some 37) (Nj := some 9) #[true, true, true, true, true, true, true, true, true, true, true, true, true, true, true, true, true, true, false, false] #[true, true, true, true, true, true, true, true, true, true, true, true, true, true, true, true, true, false, true, false] rfl rfl rfl rfl (by kernel_rfl) (by decide) (by decide) (fun K hK => ?_) (fun K hK => ?_)
            · skip
              have hcon_ := meetR_any (wrap64 ((offR Xi rate).1 - (growR rate (wrap64 (Xi.f3 - Xk.f3))))) (wrap64 ((offR Xi rate).2 + (growR rate (wrap64 (Xi.f3 - Xk.f3))))) (offR Xk rate).1 (offR Xk rate).2 w16
              refine goes_ Try.func86 (by kernel_rfl) rfl #[.agg #[.int .i64 (wrap64 ((offR Xi rate).1 - (growR rate (wrap64 (Xi.f3 - Xk.f3))))), .int .i64 (wrap64 ((offR Xi rate).2 + (growR rate (wrap64 (Xi.f3 - Xk.f3)))))], .agg #[.int .i64 (offR Xk rate).1, .int .i64 (offR Xk rate).2]] (by rfl) rfl rfl (by simp only [List.map_toArray, List.map_cons, List.map_nil]; rfl) ?_
              with_reducible refine (hcon_).mono ?_
              rintro e w17 ⟨rfl, hb⟩
              refine ⟨_, rfl, ?_⟩
              clear hcon_
              replace m3 := blk_below m3 hb
              replace m7 := blk_below m7 hb
              replace m8 := blk_below m8 hb
              replace mB := below_step mB hb
              clear hb
              refine hK.out _ _ ⟨((blk_cell m3 0).trans rfl), ((blk_cell m3 1).trans rfl), ((blk_cell m3 2).trans rfl), ((blk_cell m7 0).trans rfl), ((blk_cell m7 1).trans rfl), ((blk_cell m7 2).trans rfl), ((blk_cell m7 3).trans rfl), ((blk_cell m7 4).trans rfl), ((blk_cell m7 5).trans rfl), ((blk_cell m7 6).trans rfl), ((blk_cell m7 7).trans rfl), ((blk_cell m8 0).trans rfl), ((blk_cell m8 1).trans rfl), ((blk_cell m8 2).trans rfl), ((blk_cell m8 3).trans rfl), ((blk_cell m8 4).trans rfl), ((blk_cell m8 5).trans rfl), ((blk_cell m8 6).trans rfl), ((blk_cell m8 7).trans rfl)⟩ (fun hHeld => ?_)
              clear hK K
              refine norm_ (a' := ?_) ?_ ?_
              rotate_left
              · show Act.put _ (some 37) _ = _
                simp only [Act.put, List.setIfInBounds_toArray, List.set_cons_zero, List.set_cons_succ, i64_w, i32_w]
                rfl
              refine one_ (i := 18) (N := some 9) #[true, true, true, true, true, true, true, true, true, true, true, true, true, true, true, true, true, true, true, false] rfl rfl (by kernel_rfl) (by decide) (fun K hK => ?_)
              have hn_3_9 : g3 ≠ w17.heap.size := by have h_ := blk_lt m3; omega
              have hn_7_9 : g7 ≠ w17.heap.size := by have h_ := blk_lt m7; omega
              have hn_8_9 : g8 ≠ w17.heap.size := by have h_ := blk_lt m8; omega
              have hG9 : w.heap.size ≤ w17.heap.size := by have h_ := mB.size; omega
              replace m3 := blk_alloc m3 (.cells #[.int .i64 0, .int .i64 0] 35)
              replace m7 := blk_alloc m7 (.cells #[.int .i64 0, .int .i64 0] 35)
              replace m8 := blk_alloc m8 (.cells #[.int .i64 0, .int .i64 0] 35)
              have m9 : Blk (w17.alloc (.cells #[.int .i64 0, .int .i64 0] 35)) (w17.heap.size) #[.int .i64 0, .int .i64 0] 35 := by have h_ := blk_new w17 (.cells #[.int .i64 0, .int .i64 0] 35); first | exact h_ | (simp only [World.size_alloc] at h_; exact h_)
              replace mB := below_alloc mB (.cells #[.int .i64 0, .int .i64 0] 35)
              refine value_ (w1 := ?_) (v := ?_) (by rfl) rfl ?_ ?_
              rotate_left 2
              · go_simp
                constructor
                · rfl
                · rfl
              refine hK.out _ _ ⟨((blk_cell m3 0).trans rfl), ((blk_cell m3 1).trans rfl), ((blk_cell m3 2).trans rfl), ((blk_cell m7 0).trans rfl), ((blk_cell m7 1).trans rfl), ((blk_cell m7 2).trans rfl), ((blk_cell m7 3).trans rfl), ((blk_cell m7 4).trans rfl), ((blk_cell m7 5).trans rfl), ((blk_cell m7 6).trans rfl), ((blk_cell m7 7).trans rfl), ((blk_cell m8 0).trans rfl), ((blk_cell m8 1).trans rfl), ((blk_cell m8 2).trans rfl), ((blk_cell m8 3).trans rfl), ((blk_cell m8 4).trans rfl), ((blk_cell m8 5).trans rfl), ((blk_cell m8 6).trans rfl), ((blk_cell m8 7).trans rfl)⟩ (fun hHeld => ?_)
              clear hK K
              refine norm_ (a' := ?_) ?_ ?_
              rotate_left
              · show Act.put _ (some 9) _ = _
                simp only [Act.put, List.setIfInBounds_toArray, List.set_cons_zero, List.set_cons_succ, i64_w, i32_w]
                rfl
              exact norm_ (by first | (simp only [putAll, Act.put, List.setIfInBounds_toArray, List.set_cons_zero, List.set_cons_succ]; done) | (simp only [putAll, Act.put, List.setIfInBounds_toArray, List.set_cons_zero, List.set_cons_succ]; rfl)) (hCont (w17.heap.size) _ ⟨m3, m7, m8, m9, mB, hG9, hn_3_9, hn_7_9, hn_8_9⟩)
            · skip
              have hn_3_9 : g3 ≠ w16.heap.size := by have h_ := blk_lt m3; omega
              have hn_7_9 : g7 ≠ w16.heap.size := by have h_ := blk_lt m7; omega
              have hn_8_9 : g8 ≠ w16.heap.size := by have h_ := blk_lt m8; omega
              have hG9 : w.heap.size ≤ w16.heap.size := by have h_ := mB.size; omega
              replace m3 := blk_alloc m3 (.cells #[.int .i64 0, .int .i64 0] 35)
              replace m7 := blk_alloc m7 (.cells #[.int .i64 0, .int .i64 0] 35)
              replace m8 := blk_alloc m8 (.cells #[.int .i64 0, .int .i64 0] 35)
              have m9 : Blk (w16.alloc (.cells #[.int .i64 0, .int .i64 0] 35)) (w16.heap.size) #[.int .i64 0, .int .i64 0] 35 := by have h_ := blk_new w16 (.cells #[.int .i64 0, .int .i64 0] 35); first | exact h_ | (simp only [World.size_alloc] at h_; exact h_)
              replace mB := below_alloc mB (.cells #[.int .i64 0, .int .i64 0] 35)
              refine value_ (w1 := ?_) (v := ?_) (by rfl) rfl ?_ ?_
              rotate_left 2
              · go_simp
                constructor
                · rfl
                · rfl
              refine hK.out _ _ ⟨((blk_cell m3 0).trans rfl), ((blk_cell m3 1).trans rfl), ((blk_cell m3 2).trans rfl), ((blk_cell m7 0).trans rfl), ((blk_cell m7 1).trans rfl), ((blk_cell m7 2).trans rfl), ((blk_cell m7 3).trans rfl), ((blk_cell m7 4).trans rfl), ((blk_cell m7 5).trans rfl), ((blk_cell m7 6).trans rfl), ((blk_cell m7 7).trans rfl), ((blk_cell m8 0).trans rfl), ((blk_cell m8 1).trans rfl), ((blk_cell m8 2).trans rfl), ((blk_cell m8 3).trans rfl), ((blk_cell m8 4).trans rfl), ((blk_cell m8 5).trans rfl), ((blk_cell m8 6).trans rfl), ((blk_cell m8 7).trans rfl)⟩ (fun hHeld => ?_)
              clear hK K
              refine norm_ (a' := ?_) ?_ ?_
              rotate_left
              · show Act.put _ (some 9) _ = _
                simp only [Act.put, List.setIfInBounds_toArray, List.set_cons_zero, List.set_cons_succ, i64_w, i32_w]
                rfl
              refine one_ (i := 17) (N := some 37) #[true, true, true, true, true, true, true, true, true, true, true, true, true, true, true, true, true, true, true, false] rfl rfl (by kernel_rfl) (by decide) (fun K hK => ?_)
              have hcon_ := meetR_any (wrap64 ((offR Xi rate).1 - (growR rate (wrap64 (Xi.f3 - Xk.f3))))) (wrap64 ((offR Xi rate).2 + (growR rate (wrap64 (Xi.f3 - Xk.f3))))) (offR Xk rate).1 (offR Xk rate).2 (w16.alloc (.cells #[.int .i64 0, .int .i64 0] 35))
              refine goes_ Try.func86 (by kernel_rfl) rfl #[.agg #[.int .i64 (wrap64 ((offR Xi rate).1 - (growR rate (wrap64 (Xi.f3 - Xk.f3))))), .int .i64 (wrap64 ((offR Xi rate).2 + (growR rate (wrap64 (Xi.f3 - Xk.f3)))))], .agg #[.int .i64 (offR Xk rate).1, .int .i64 (offR Xk rate).2]] (by rfl) rfl rfl (by simp only [List.map_toArray, List.map_cons, List.map_nil]; rfl) ?_
              with_reducible refine (hcon_).mono ?_
              rintro e w17 ⟨rfl, hb⟩
              refine ⟨_, rfl, ?_⟩
              clear hcon_
              replace m3 := blk_below m3 hb
              replace m7 := blk_below m7 hb
              replace m8 := blk_below m8 hb
              replace m9 := blk_below m9 hb
              replace mB := below_step mB hb
              clear hb
              refine hK.out _ _ ⟨((blk_cell m3 0).trans rfl), ((blk_cell m3 1).trans rfl), ((blk_cell m3 2).trans rfl), ((blk_cell m7 0).trans rfl), ((blk_cell m7 1).trans rfl), ((blk_cell m7 2).trans rfl), ((blk_cell m7 3).trans rfl), ((blk_cell m7 4).trans rfl), ((blk_cell m7 5).trans rfl), ((blk_cell m7 6).trans rfl), ((blk_cell m7 7).trans rfl), ((blk_cell m8 0).trans rfl), ((blk_cell m8 1).trans rfl), ((blk_cell m8 2).trans rfl), ((blk_cell m8 3).trans rfl), ((blk_cell m8 4).trans rfl), ((blk_cell m8 5).trans rfl), ((blk_cell m8 6).trans rfl), ((blk_cell m8 7).trans rfl)⟩ (fun hHeld => ?_)
              clear hK K
              refine norm_ (a' := ?_) ?_ ?_
              rotate_left
              · show Act.put _ (some 37) _ = _
                simp only [Act.put, List.setIfInBounds_toArray, List.set_cons_zero, List.set_cons_succ, i64_w, i32_w]
                rfl
              exact norm_ (by first | (simp only [putAll, Act.put, List.setIfInBounds_toArray, List.set_cons_zero, List.set_cons_succ]; done) | (simp only [putAll, Act.put, List.setIfInBounds_toArray, List.set_cons_zero, List.set_cons_succ]; rfl)) (hCont (w16.heap.size) _ ⟨m3, m7, m8, m9, mB, hG9, hn_3_9, hn_7_9, hn_8_9⟩)
          · skip
            have hn_3_9 : g3 ≠ w12.heap.size := by have h_ := blk_lt m3; omega
            have hn_7_9 : g7 ≠ w12.heap.size := by have h_ := blk_lt m7; omega
            have hn_8_9 : g8 ≠ w12.heap.size := by have h_ := blk_lt m8; omega
            have hG9 : w.heap.size ≤ w12.heap.size := by have h_ := mB.size; omega
            replace m3 := blk_alloc m3 (.cells #[.int .i64 0, .int .i64 0] 35)
            replace m7 := blk_alloc m7 (.cells #[.int .i64 0, .int .i64 0] 35)
            replace m8 := blk_alloc m8 (.cells #[.int .i64 0, .int .i64 0] 35)
            have m9 : Blk (w12.alloc (.cells #[.int .i64 0, .int .i64 0] 35)) (w12.heap.size) #[.int .i64 0, .int .i64 0] 35 := by have h_ := blk_new w12 (.cells #[.int .i64 0, .int .i64 0] 35); first | exact h_ | (simp only [World.size_alloc] at h_; exact h_)
            replace mB := below_alloc mB (.cells #[.int .i64 0, .int .i64 0] 35)
            refine value_ (w1 := ?_) (v := ?_) (by rfl) rfl ?_ ?_
            rotate_left 2
            · go_simp
              constructor
              · rfl
              · rfl
            refine hK.out _ _ ⟨((blk_cell m3 0).trans rfl), ((blk_cell m3 1).trans rfl), ((blk_cell m3 2).trans rfl), ((blk_cell m7 0).trans rfl), ((blk_cell m7 1).trans rfl), ((blk_cell m7 2).trans rfl), ((blk_cell m7 3).trans rfl), ((blk_cell m7 4).trans rfl), ((blk_cell m7 5).trans rfl), ((blk_cell m7 6).trans rfl), ((blk_cell m7 7).trans rfl), ((blk_cell m8 0).trans rfl), ((blk_cell m8 1).trans rfl), ((blk_cell m8 2).trans rfl), ((blk_cell m8 3).trans rfl), ((blk_cell m8 4).trans rfl), ((blk_cell m8 5).trans rfl), ((blk_cell m8 6).trans rfl), ((blk_cell m8 7).trans rfl)⟩ (fun hHeld => ?_)
            clear hK K
            refine norm_ (a' := ?_) ?_ ?_
            rotate_left
            · show Act.put _ (some 9) _ = _
              simp only [Act.put, List.setIfInBounds_toArray, List.set_cons_zero, List.set_cons_succ, i64_w, i32_w]
              rfl
            refine one_ (i := 16) (N := some 36) #[true, true, true, true, true, true, true, true, true, true, true, true, true, true, true, true, true, false, true, false] rfl rfl (by kernel_rfl) (by decide) (fun K hK => ?_)
            have hcon_ := offR_any Xk rate (w12.alloc (.cells #[.int .i64 0, .int .i64 0] 35))
            refine goes_ Try.func67 (by kernel_rfl) rfl #[.agg #[.int .i64 Xk.f0, .int .i64 Xk.f1, .int .i64 Xk.f2, .int .i64 Xk.f3, .int .i64 Xk.f4.f0, .int .i64 Xk.f4.f1, .int .i64 Xk.f5.f0, .int .i64 Xk.f5.f1], .int .i64 rate] (by rfl) rfl rfl (by simp only [List.map_toArray, List.map_cons, List.map_nil]; rfl) ?_
            with_reducible refine (hcon_).mono ?_
            rintro e w16 ⟨rfl, hb⟩
            refine ⟨_, rfl, ?_⟩
            clear hcon_
            replace m3 := blk_below m3 hb
            replace m7 := blk_below m7 hb
            replace m8 := blk_below m8 hb
            replace m9 := blk_below m9 hb
            replace mB := below_step mB hb
            clear hb
            refine hK.out _ _ ⟨((blk_cell m3 0).trans rfl), ((blk_cell m3 1).trans rfl), ((blk_cell m3 2).trans rfl), ((blk_cell m7 0).trans rfl), ((blk_cell m7 1).trans rfl), ((blk_cell m7 2).trans rfl), ((blk_cell m7 3).trans rfl), ((blk_cell m7 4).trans rfl), ((blk_cell m7 5).trans rfl), ((blk_cell m7 6).trans rfl), ((blk_cell m7 7).trans rfl), ((blk_cell m8 0).trans rfl), ((blk_cell m8 1).trans rfl), ((blk_cell m8 2).trans rfl), ((blk_cell m8 3).trans rfl), ((blk_cell m8 4).trans rfl), ((blk_cell m8 5).trans rfl), ((blk_cell m8 6).trans rfl), ((blk_cell m8 7).trans rfl)⟩ (fun hHeld => ?_)
            clear hK K
            refine norm_ (a' := ?_) ?_ ?_
            rotate_left
            · show Act.put _ (some 36) _ = _
              simp only [Act.put, List.setIfInBounds_toArray, List.set_cons_zero, List.set_cons_succ, i64_w, i32_w]
              rfl
            refine one_ (i := 17) (N := some 37) #[true, true, true, true, true, true, true, true, true, true, true, true, true, true, true, true, true, true, true, false] rfl rfl (by kernel_rfl) (by decide) (fun K hK => ?_)
            have hcon_ := meetR_any (wrap64 ((offR Xi rate).1 - (growR rate (wrap64 (Xi.f3 - Xk.f3))))) (wrap64 ((offR Xi rate).2 + (growR rate (wrap64 (Xi.f3 - Xk.f3))))) (offR Xk rate).1 (offR Xk rate).2 w16
            refine goes_ Try.func86 (by kernel_rfl) rfl #[.agg #[.int .i64 (wrap64 ((offR Xi rate).1 - (growR rate (wrap64 (Xi.f3 - Xk.f3))))), .int .i64 (wrap64 ((offR Xi rate).2 + (growR rate (wrap64 (Xi.f3 - Xk.f3)))))], .agg #[.int .i64 (offR Xk rate).1, .int .i64 (offR Xk rate).2]] (by rfl) rfl rfl (by simp only [List.map_toArray, List.map_cons, List.map_nil]; rfl) ?_
            with_reducible refine (hcon_).mono ?_
            rintro e w17 ⟨rfl, hb⟩
            refine ⟨_, rfl, ?_⟩
            clear hcon_
            replace m3 := blk_below m3 hb
            replace m7 := blk_below m7 hb
            replace m8 := blk_below m8 hb
            replace m9 := blk_below m9 hb
            replace mB := below_step mB hb
            clear hb
            refine hK.out _ _ ⟨((blk_cell m3 0).trans rfl), ((blk_cell m3 1).trans rfl), ((blk_cell m3 2).trans rfl), ((blk_cell m7 0).trans rfl), ((blk_cell m7 1).trans rfl), ((blk_cell m7 2).trans rfl), ((blk_cell m7 3).trans rfl), ((blk_cell m7 4).trans rfl), ((blk_cell m7 5).trans rfl), ((blk_cell m7 6).trans rfl), ((blk_cell m7 7).trans rfl), ((blk_cell m8 0).trans rfl), ((blk_cell m8 1).trans rfl), ((blk_cell m8 2).trans rfl), ((blk_cell m8 3).trans rfl), ((blk_cell m8 4).trans rfl), ((blk_cell m8 5).trans rfl), ((blk_cell m8 6).trans rfl), ((blk_cell m8 7).trans rfl)⟩ (fun hHeld => ?_)
            clear hK K
            refine norm_ (a' := ?_) ?_ ?_
            rotate_left
            · show Act.put _ (some 37) _ = _
              simp only [Act.put, List.setIfInBounds_toArray, List.set_cons_zero, List.set_cons_succ, i64_w, i32_w]
              rfl
            exact norm_ (by first | (simp only [putAll, Act.put, List.setIfInBounds_toArray, List.set_cons_zero, List.set_cons_succ]; done) | (simp only [putAll, Act.put, List.setIfInBounds_toArray, List.set_cons_zero, List.set_cons_succ]; rfl)) (hCont (w12.heap.size) _ ⟨m3, m7, m8, m9, mB, hG9, hn_3_9, hn_7_9, hn_8_9⟩)
        · skip
          have hn_3_9 : g3 ≠ w11.heap.size := by have h_ := blk_lt m3; omega
          have hn_7_9 : g7 ≠ w11.heap.size := by have h_ := blk_lt m7; omega
          have hn_8_9 : g8 ≠ w11.heap.size := by have h_ := blk_lt m8; omega
          have hG9 : w.heap.size ≤ w11.heap.size := by have h_ := mB.size; omega
          replace m3 := blk_alloc m3 (.cells #[.int .i64 0, .int .i64 0] 35)
          replace m7 := blk_alloc m7 (.cells #[.int .i64 0, .int .i64 0] 35)
          replace m8 := blk_alloc m8 (.cells #[.int .i64 0, .int .i64 0] 35)
          have m9 : Blk (w11.alloc (.cells #[.int .i64 0, .int .i64 0] 35)) (w11.heap.size) #[.int .i64 0, .int .i64 0] 35 := by have h_ := blk_new w11 (.cells #[.int .i64 0, .int .i64 0] 35); first | exact h_ | (simp only [World.size_alloc] at h_; exact h_)
          replace mB := below_alloc mB (.cells #[.int .i64 0, .int .i64 0] 35)
          refine value_ (w1 := ?_) (v := ?_) (by rfl) rfl ?_ ?_
          rotate_left 2
          · go_simp
            constructor
            · rfl
            · rfl
          refine hK.out _ _ ⟨((blk_cell m3 0).trans rfl), ((blk_cell m3 1).trans rfl), ((blk_cell m3 2).trans rfl), ((blk_cell m7 0).trans rfl), ((blk_cell m7 1).trans rfl), ((blk_cell m7 2).trans rfl), ((blk_cell m7 3).trans rfl), ((blk_cell m7 4).trans rfl), ((blk_cell m7 5).trans rfl), ((blk_cell m7 6).trans rfl), ((blk_cell m7 7).trans rfl), ((blk_cell m8 0).trans rfl), ((blk_cell m8 1).trans rfl), ((blk_cell m8 2).trans rfl), ((blk_cell m8 3).trans rfl), ((blk_cell m8 4).trans rfl), ((blk_cell m8 5).trans rfl), ((blk_cell m8 6).trans rfl), ((blk_cell m8 7).trans rfl)⟩ (fun hHeld => ?_)
          clear hK K
          refine norm_ (a' := ?_) ?_ ?_
          rotate_left
          · show Act.put _ (some 9) _ = _
            simp only [Act.put, List.setIfInBounds_toArray, List.set_cons_zero, List.set_cons_succ, i64_w, i32_w]
            rfl
          refine one_ (i := 12) (N := some 32) #[true, true, true, true, true, true, true, true, true, true, true, true, true, true, true, true, false, false, true, false] rfl rfl (by kernel_rfl) (by decide) (fun K hK => ?_)
          have hcon_ := grownR_any (offR Xi rate).1 (offR Xi rate).2 (growR rate (wrap64 (Xi.f3 - Xk.f3))) (w11.alloc (.cells #[.int .i64 0, .int .i64 0] 35))
          refine goes_ Try.func95 (by kernel_rfl) rfl #[.agg #[.int .i64 (offR Xi rate).1, .int .i64 (offR Xi rate).2], .int .i64 (growR rate (wrap64 (Xi.f3 - Xk.f3)))] (by rfl) rfl rfl (by simp only [List.map_toArray, List.map_cons, List.map_nil]; rfl) ?_
          with_reducible refine (hcon_).mono ?_
          rintro e w12 ⟨rfl, hb⟩
          refine ⟨_, rfl, ?_⟩
          clear hcon_
          replace m3 := blk_below m3 hb
          replace m7 := blk_below m7 hb
          replace m8 := blk_below m8 hb
          replace m9 := blk_below m9 hb
          replace mB := below_step mB hb
          clear hb
          refine hK.out _ _ ⟨((blk_cell m3 0).trans rfl), ((blk_cell m3 1).trans rfl), ((blk_cell m3 2).trans rfl), ((blk_cell m7 0).trans rfl), ((blk_cell m7 1).trans rfl), ((blk_cell m7 2).trans rfl), ((blk_cell m7 3).trans rfl), ((blk_cell m7 4).trans rfl), ((blk_cell m7 5).trans rfl), ((blk_cell m7 6).trans rfl), ((blk_cell m7 7).trans rfl), ((blk_cell m8 0).trans rfl), ((blk_cell m8 1).trans rfl), ((blk_cell m8 2).trans rfl), ((blk_cell m8 3).trans rfl), ((blk_cell m8 4).trans rfl), ((blk_cell m8 5).trans rfl), ((blk_cell m8 6).trans rfl), ((blk_cell m8 7).trans rfl)⟩ (fun hHeld => ?_)
          clear hK K
          refine norm_ (a' := ?_) ?_ ?_
          rotate_left
          · show Act.put _ (some 32) _ = _
            simp only [Act.put, List.setIfInBounds_toArray, List.set_cons_zero, List.set_cons_succ, i64_w, i32_w]
            rfl
          refine one_ (i := 16) (N := some 36) #[true, true, true, true, true, true, true, true, true, true, true, true, true, true, true, true, true, false, true, false] rfl rfl (by kernel_rfl) (by decide) (fun K hK => ?_)
          have hcon_ := offR_any Xk rate w12
          refine goes_ Try.func67 (by kernel_rfl) rfl #[.agg #[.int .i64 Xk.f0, .int .i64 Xk.f1, .int .i64 Xk.f2, .int .i64 Xk.f3, .int .i64 Xk.f4.f0, .int .i64 Xk.f4.f1, .int .i64 Xk.f5.f0, .int .i64 Xk.f5.f1], .int .i64 rate] (by rfl) rfl rfl (by simp only [List.map_toArray, List.map_cons, List.map_nil]; rfl) ?_
          with_reducible refine (hcon_).mono ?_
          rintro e w16 ⟨rfl, hb⟩
          refine ⟨_, rfl, ?_⟩
          clear hcon_
          replace m3 := blk_below m3 hb
          replace m7 := blk_below m7 hb
          replace m8 := blk_below m8 hb
          replace m9 := blk_below m9 hb
          replace mB := below_step mB hb
          clear hb
          refine hK.out _ _ ⟨((blk_cell m3 0).trans rfl), ((blk_cell m3 1).trans rfl), ((blk_cell m3 2).trans rfl), ((blk_cell m7 0).trans rfl), ((blk_cell m7 1).trans rfl), ((blk_cell m7 2).trans rfl), ((blk_cell m7 3).trans rfl), ((blk_cell m7 4).trans rfl), ((blk_cell m7 5).trans rfl), ((blk_cell m7 6).trans rfl), ((blk_cell m7 7).trans rfl), ((blk_cell m8 0).trans rfl), ((blk_cell m8 1).trans rfl), ((blk_cell m8 2).trans rfl), ((blk_cell m8 3).trans rfl), ((blk_cell m8 4).trans rfl), ((blk_cell m8 5).trans rfl), ((blk_cell m8 6).trans rfl), ((blk_cell m8 7).trans rfl)⟩ (fun hHeld => ?_)
          clear hK K
          refine norm_ (a' := ?_) ?_ ?_
          rotate_left
          · show Act.put _ (some 36) _ = _
            simp only [Act.put, List.setIfInBounds_toArray, List.set_cons_zero, List.set_cons_succ, i64_w, i32_w]
            rfl
          refine one_ (i := 17) (N := some 37) #[true, true, true, true, true, true, true, true, true, true, true, true, true, true, true, true, true, true, true, false] rfl rfl (by kernel_rfl) (by decide) (fun K hK => ?_)
          have hcon_ := meetR_any (wrap64 ((offR Xi rate).1 - (growR rate (wrap64 (Xi.f3 - Xk.f3))))) (wrap64 ((offR Xi rate).2 + (growR rate (wrap64 (Xi.f3 - Xk.f3))))) (offR Xk rate).1 (offR Xk rate).2 w16
          refine goes_ Try.func86 (by kernel_rfl) rfl #[.agg #[.int .i64 (wrap64 ((offR Xi rate).1 - (growR rate (wrap64 (Xi.f3 - Xk.f3))))), .int .i64 (wrap64 ((offR Xi rate).2 + (growR rate (wrap64 (Xi.f3 - Xk.f3)))))], .agg #[.int .i64 (offR Xk rate).1, .int .i64 (offR Xk rate).2]] (by rfl) rfl rfl (by simp only [List.map_toArray, List.map_cons, List.map_nil]; rfl) ?_
          with_reducible refine (hcon_).mono ?_
          rintro e w17 ⟨rfl, hb⟩
          refine ⟨_, rfl, ?_⟩
          clear hcon_
          replace m3 := blk_below m3 hb
          replace m7 := blk_below m7 hb
          replace m8 := blk_below m8 hb
          replace m9 := blk_below m9 hb
          replace mB := below_step mB hb
          clear hb
          refine hK.out _ _ ⟨((blk_cell m3 0).trans rfl), ((blk_cell m3 1).trans rfl), ((blk_cell m3 2).trans rfl), ((blk_cell m7 0).trans rfl), ((blk_cell m7 1).trans rfl), ((blk_cell m7 2).trans rfl), ((blk_cell m7 3).trans rfl), ((blk_cell m7 4).trans rfl), ((blk_cell m7 5).trans rfl), ((blk_cell m7 6).trans rfl), ((blk_cell m7 7).trans rfl), ((blk_cell m8 0).trans rfl), ((blk_cell m8 1).trans rfl), ((blk_cell m8 2).trans rfl), ((blk_cell m8 3).trans rfl), ((blk_cell m8 4).trans rfl), ((blk_cell m8 5).trans rfl), ((blk_cell m8 6).trans rfl), ((blk_cell m8 7).trans rfl)⟩ (fun hHeld => ?_)
          clear hK K
          refine norm_ (a' := ?_) ?_ ?_
          rotate_left
          · show Act.put _ (some 37) _ = _
            simp only [Act.put, List.setIfInBounds_toArray, List.set_cons_zero, List.set_cons_succ, i64_w, i32_w]
            rfl
          exact norm_ (by first | (simp only [putAll, Act.put, List.setIfInBounds_toArray, List.set_cons_zero, List.set_cons_succ]; done) | (simp only [putAll, Act.put, List.setIfInBounds_toArray, List.set_cons_zero, List.set_cons_succ]; rfl)) (hCont (w11.heap.size) _ ⟨m3, m7, m8, m9, mB, hG9, hn_3_9, hn_7_9, hn_8_9⟩)
      · skip
        have hn_3_9 : g3 ≠ w3.heap.size := by have h_ := blk_lt m3; omega
        have hn_7_9 : g7 ≠ w3.heap.size := by have h_ := blk_lt m7; omega
        have hn_8_9 : g8 ≠ w3.heap.size := by have h_ := blk_lt m8; omega
        have hG9 : w.heap.size ≤ w3.heap.size := by have h_ := mB.size; omega
        replace m3 := blk_alloc m3 (.cells #[.int .i64 0, .int .i64 0] 35)
        replace m7 := blk_alloc m7 (.cells #[.int .i64 0, .int .i64 0] 35)
        replace m8 := blk_alloc m8 (.cells #[.int .i64 0, .int .i64 0] 35)
        have m9 : Blk (w3.alloc (.cells #[.int .i64 0, .int .i64 0] 35)) (w3.heap.size) #[.int .i64 0, .int .i64 0] 35 := by have h_ := blk_new w3 (.cells #[.int .i64 0, .int .i64 0] 35); first | exact h_ | (simp only [World.size_alloc] at h_; exact h_)
        replace mB := below_alloc mB (.cells #[.int .i64 0, .int .i64 0] 35)
        refine value_ (w1 := ?_) (v := ?_) (by rfl) rfl ?_ ?_
        rotate_left 2
        · go_simp
          constructor
          · rfl
          · rfl
        refine hK.out _ _ ⟨((blk_cell m3 0).trans rfl), ((blk_cell m3 1).trans rfl), ((blk_cell m3 2).trans rfl), ((blk_cell m7 0).trans rfl), ((blk_cell m7 1).trans rfl), ((blk_cell m7 2).trans rfl), ((blk_cell m7 3).trans rfl), ((blk_cell m7 4).trans rfl), ((blk_cell m7 5).trans rfl), ((blk_cell m7 6).trans rfl), ((blk_cell m7 7).trans rfl), ((blk_cell m8 0).trans rfl), ((blk_cell m8 1).trans rfl), ((blk_cell m8 2).trans rfl), ((blk_cell m8 3).trans rfl), ((blk_cell m8 4).trans rfl), ((blk_cell m8 5).trans rfl), ((blk_cell m8 6).trans rfl), ((blk_cell m8 7).trans rfl)⟩ (fun hHeld => ?_)
        clear hK K
        refine norm_ (a' := ?_) ?_ ?_
        rotate_left
        · show Act.put _ (some 9) _ = _
          simp only [Act.put, List.setIfInBounds_toArray, List.set_cons_zero, List.set_cons_succ, i64_w, i32_w]
          rfl
        refine one_ (i := 11) (N := some 31) #[true, true, true, true, true, true, true, true, true, true, true, true, false, true, true, true, false, false, true, false] rfl rfl (by kernel_rfl) (by decide) (fun K hK => ?_)
        have hcon_ := growR_any rate (wrap64 (Xi.f3 - Xk.f3)) (w3.alloc (.cells #[.int .i64 0, .int .i64 0] 35))
        refine goes_ Try.func24 (by kernel_rfl) rfl #[.int .i64 rate, .int .i64 (wrap64 (Xi.f3 - Xk.f3))] (by rfl) rfl rfl (by simp only [List.map_toArray, List.map_cons, List.map_nil]; rfl) ?_
        with_reducible refine (hcon_).mono ?_
        rintro e w11 ⟨rfl, hb⟩
        refine ⟨_, rfl, ?_⟩
        clear hcon_
        replace m3 := blk_below m3 hb
        replace m7 := blk_below m7 hb
        replace m8 := blk_below m8 hb
        replace m9 := blk_below m9 hb
        replace mB := below_step mB hb
        clear hb
        refine hK.out _ _ ⟨((blk_cell m3 0).trans rfl), ((blk_cell m3 1).trans rfl), ((blk_cell m3 2).trans rfl), ((blk_cell m7 0).trans rfl), ((blk_cell m7 1).trans rfl), ((blk_cell m7 2).trans rfl), ((blk_cell m7 3).trans rfl), ((blk_cell m7 4).trans rfl), ((blk_cell m7 5).trans rfl), ((blk_cell m7 6).trans rfl), ((blk_cell m7 7).trans rfl), ((blk_cell m8 0).trans rfl), ((blk_cell m8 1).trans rfl), ((blk_cell m8 2).trans rfl), ((blk_cell m8 3).trans rfl), ((blk_cell m8 4).trans rfl), ((blk_cell m8 5).trans rfl), ((blk_cell m8 6).trans rfl), ((blk_cell m8 7).trans rfl)⟩ (fun hHeld => ?_)
        clear hK K
        refine norm_ (a' := ?_) ?_ ?_
        rotate_left
        · show Act.put _ (some 31) _ = _
          simp only [Act.put, List.setIfInBounds_toArray, List.set_cons_zero, List.set_cons_succ, i64_w, i32_w]
          rfl
        refine one_ (i := 12) (N := some 32) #[true, true, true, true, true, true, true, true, true, true, true, true, true, true, true, true, false, false, true, false] rfl rfl (by kernel_rfl) (by decide) (fun K hK => ?_)
        have hcon_ := grownR_any (offR Xi rate).1 (offR Xi rate).2 (growR rate (wrap64 (Xi.f3 - Xk.f3))) w11
        refine goes_ Try.func95 (by kernel_rfl) rfl #[.agg #[.int .i64 (offR Xi rate).1, .int .i64 (offR Xi rate).2], .int .i64 (growR rate (wrap64 (Xi.f3 - Xk.f3)))] (by rfl) rfl rfl (by simp only [List.map_toArray, List.map_cons, List.map_nil]; rfl) ?_
        with_reducible refine (hcon_).mono ?_
        rintro e w12 ⟨rfl, hb⟩
        refine ⟨_, rfl, ?_⟩
        clear hcon_
        replace m3 := blk_below m3 hb
        replace m7 := blk_below m7 hb
        replace m8 := blk_below m8 hb
        replace m9 := blk_below m9 hb
        replace mB := below_step mB hb
        clear hb
        refine hK.out _ _ ⟨((blk_cell m3 0).trans rfl), ((blk_cell m3 1).trans rfl), ((blk_cell m3 2).trans rfl), ((blk_cell m7 0).trans rfl), ((blk_cell m7 1).trans rfl), ((blk_cell m7 2).trans rfl), ((blk_cell m7 3).trans rfl), ((blk_cell m7 4).trans rfl), ((blk_cell m7 5).trans rfl), ((blk_cell m7 6).trans rfl), ((blk_cell m7 7).trans rfl), ((blk_cell m8 0).trans rfl), ((blk_cell m8 1).trans rfl), ((blk_cell m8 2).trans rfl), ((blk_cell m8 3).trans rfl), ((blk_cell m8 4).trans rfl), ((blk_cell m8 5).trans rfl), ((blk_cell m8 6).trans rfl), ((blk_cell m8 7).trans rfl)⟩ (fun hHeld => ?_)
        clear hK K
        refine norm_ (a' := ?_) ?_ ?_
        rotate_left
        · show Act.put _ (some 32) _ = _
          simp only [Act.put, List.setIfInBounds_toArray, List.set_cons_zero, List.set_cons_succ, i64_w, i32_w]
          rfl
        refine one_ (i := 16) (N := some 36) #[true, true, true, true, true, true, true, true, true, true, true, true, true, true, true, true, true, false, true, false] rfl rfl (by kernel_rfl) (by decide) (fun K hK => ?_)
        have hcon_ := offR_any Xk rate w12
        refine goes_ Try.func67 (by kernel_rfl) rfl #[.agg #[.int .i64 Xk.f0, .int .i64 Xk.f1, .int .i64 Xk.f2, .int .i64 Xk.f3, .int .i64 Xk.f4.f0, .int .i64 Xk.f4.f1, .int .i64 Xk.f5.f0, .int .i64 Xk.f5.f1], .int .i64 rate] (by rfl) rfl rfl (by simp only [List.map_toArray, List.map_cons, List.map_nil]; rfl) ?_
        with_reducible refine (hcon_).mono ?_
        rintro e w16 ⟨rfl, hb⟩
        refine ⟨_, rfl, ?_⟩
        clear hcon_
        replace m3 := blk_below m3 hb
        replace m7 := blk_below m7 hb
        replace m8 := blk_below m8 hb
        replace m9 := blk_below m9 hb
        replace mB := below_step mB hb
        clear hb
        refine hK.out _ _ ⟨((blk_cell m3 0).trans rfl), ((blk_cell m3 1).trans rfl), ((blk_cell m3 2).trans rfl), ((blk_cell m7 0).trans rfl), ((blk_cell m7 1).trans rfl), ((blk_cell m7 2).trans rfl), ((blk_cell m7 3).trans rfl), ((blk_cell m7 4).trans rfl), ((blk_cell m7 5).trans rfl), ((blk_cell m7 6).trans rfl), ((blk_cell m7 7).trans rfl), ((blk_cell m8 0).trans rfl), ((blk_cell m8 1).trans rfl), ((blk_cell m8 2).trans rfl), ((blk_cell m8 3).trans rfl), ((blk_cell m8 4).trans rfl), ((blk_cell m8 5).trans rfl), ((blk_cell m8 6).trans rfl), ((blk_cell m8 7).trans rfl)⟩ (fun hHeld => ?_)
        clear hK K
        refine norm_ (a' := ?_) ?_ ?_
        rotate_left
        · show Act.put _ (some 36) _ = _
          simp only [Act.put, List.setIfInBounds_toArray, List.set_cons_zero, List.set_cons_succ, i64_w, i32_w]
          rfl
        refine one_ (i := 17) (N := some 37) #[true, true, true, true, true, true, true, true, true, true, true, true, true, true, true, true, true, true, true, false] rfl rfl (by kernel_rfl) (by decide) (fun K hK => ?_)
        have hcon_ := meetR_any (wrap64 ((offR Xi rate).1 - (growR rate (wrap64 (Xi.f3 - Xk.f3))))) (wrap64 ((offR Xi rate).2 + (growR rate (wrap64 (Xi.f3 - Xk.f3))))) (offR Xk rate).1 (offR Xk rate).2 w16
        refine goes_ Try.func86 (by kernel_rfl) rfl #[.agg #[.int .i64 (wrap64 ((offR Xi rate).1 - (growR rate (wrap64 (Xi.f3 - Xk.f3))))), .int .i64 (wrap64 ((offR Xi rate).2 + (growR rate (wrap64 (Xi.f3 - Xk.f3)))))], .agg #[.int .i64 (offR Xk rate).1, .int .i64 (offR Xk rate).2]] (by rfl) rfl rfl (by simp only [List.map_toArray, List.map_cons, List.map_nil]; rfl) ?_
        with_reducible refine (hcon_).mono ?_
        rintro e w17 ⟨rfl, hb⟩
        refine ⟨_, rfl, ?_⟩
        clear hcon_
        replace m3 := blk_below m3 hb
        replace m7 := blk_below m7 hb
        replace m8 := blk_below m8 hb
        replace m9 := blk_below m9 hb
        replace mB := below_step mB hb
        clear hb
        refine hK.out _ _ ⟨((blk_cell m3 0).trans rfl), ((blk_cell m3 1).trans rfl), ((blk_cell m3 2).trans rfl), ((blk_cell m7 0).trans rfl), ((blk_cell m7 1).trans rfl), ((blk_cell m7 2).trans rfl), ((blk_cell m7 3).trans rfl), ((blk_cell m7 4).trans rfl), ((blk_cell m7 5).trans rfl), ((blk_cell m7 6).trans rfl), ((blk_cell m7 7).trans rfl), ((blk_cell m8 0).trans rfl), ((blk_cell m8 1).trans rfl), ((blk_cell m8 2).trans rfl), ((blk_cell m8 3).trans rfl), ((blk_cell m8 4).trans rfl), ((blk_cell m8 5).trans rfl), ((blk_cell m8 6).trans rfl), ((blk_cell m8 7).trans rfl)⟩ (fun hHeld => ?_)
        clear hK K
        refine norm_ (a' := ?_) ?_ ?_
        rotate_left
        · show Act.put _ (some 37) _ = _
          simp only [Act.put, List.setIfInBounds_toArray, List.set_cons_zero, List.set_cons_succ, i64_w, i32_w]
          rfl
        exact norm_ (by first | (simp only [putAll, Act.put, List.setIfInBounds_toArray, List.set_cons_zero, List.set_cons_succ]; done) | (simp only [putAll, Act.put, List.setIfInBounds_toArray, List.set_cons_zero, List.set_cons_succ]; rfl)) (hCont (w3.heap.size) _ ⟨m3, m7, m8, m9, mB, hG9, hn_3_9, hn_7_9, hn_8_9⟩)
    · skip
      have hn_3_9 : g3 ≠ Wx.heap.size := by have h_ := blk_lt m3; omega
      have hn_7_9 : g7 ≠ Wx.heap.size := by have h_ := blk_lt m7; omega
      have hn_8_9 : g8 ≠ Wx.heap.size := by have h_ := blk_lt m8; omega
      have hG9 : w.heap.size ≤ Wx.heap.size := by have h_ := mB.size; omega
      replace m3 := blk_alloc m3 (.cells #[.int .i64 0, .int .i64 0] 35)
      replace m7 := blk_alloc m7 (.cells #[.int .i64 0, .int .i64 0] 35)
      replace m8 := blk_alloc m8 (.cells #[.int .i64 0, .int .i64 0] 35)
      have m9 : Blk (Wx.alloc (.cells #[.int .i64 0, .int .i64 0] 35)) (Wx.heap.size) #[.int .i64 0, .int .i64 0] 35 := by have h_ := blk_new Wx (.cells #[.int .i64 0, .int .i64 0] 35); first | exact h_ | (simp only [World.size_alloc] at h_; exact h_)
      replace mB := below_alloc mB (.cells #[.int .i64 0, .int .i64 0] 35)
      refine value_ (w1 := ?_) (v := ?_) (by rfl) rfl ?_ ?_
      rotate_left 2
      · go_simp
        constructor
        · rfl
        · rfl
      refine hK.out _ _ ⟨((blk_cell m3 0).trans rfl), ((blk_cell m3 1).trans rfl), ((blk_cell m3 2).trans rfl), ((blk_cell m7 0).trans rfl), ((blk_cell m7 1).trans rfl), ((blk_cell m7 2).trans rfl), ((blk_cell m7 3).trans rfl), ((blk_cell m7 4).trans rfl), ((blk_cell m7 5).trans rfl), ((blk_cell m7 6).trans rfl), ((blk_cell m7 7).trans rfl), ((blk_cell m8 0).trans rfl), ((blk_cell m8 1).trans rfl), ((blk_cell m8 2).trans rfl), ((blk_cell m8 3).trans rfl), ((blk_cell m8 4).trans rfl), ((blk_cell m8 5).trans rfl), ((blk_cell m8 6).trans rfl), ((blk_cell m8 7).trans rfl)⟩ (fun hHeld => ?_)
      clear hK K
      refine norm_ (a' := ?_) ?_ ?_
      rotate_left
      · show Act.put _ (some 9) _ = _
        simp only [Act.put, List.setIfInBounds_toArray, List.set_cons_zero, List.set_cons_succ, i64_w, i32_w]
        rfl
      refine one_ (i := 3) (N := some 23) #[true, true, true, true, true, true, true, true, true, true, true, false, false, true, true, true, false, false, true, false] rfl rfl (by kernel_rfl) (by decide) (fun K hK => ?_)
      have hcon_ := offR_any Xi rate (Wx.alloc (.cells #[.int .i64 0, .int .i64 0] 35))
      refine goes_ Try.func67 (by kernel_rfl) rfl #[.agg #[.int .i64 Xi.f0, .int .i64 Xi.f1, .int .i64 Xi.f2, .int .i64 Xi.f3, .int .i64 Xi.f4.f0, .int .i64 Xi.f4.f1, .int .i64 Xi.f5.f0, .int .i64 Xi.f5.f1], .int .i64 rate] (by rfl) rfl rfl (by simp only [List.map_toArray, List.map_cons, List.map_nil]; rfl) ?_
      with_reducible refine (hcon_).mono ?_
      rintro e w3 ⟨rfl, hb⟩
      refine ⟨_, rfl, ?_⟩
      clear hcon_
      replace m3 := blk_below m3 hb
      replace m7 := blk_below m7 hb
      replace m8 := blk_below m8 hb
      replace m9 := blk_below m9 hb
      replace mB := below_step mB hb
      clear hb
      refine hK.out _ _ ⟨((blk_cell m3 0).trans rfl), ((blk_cell m3 1).trans rfl), ((blk_cell m3 2).trans rfl), ((blk_cell m7 0).trans rfl), ((blk_cell m7 1).trans rfl), ((blk_cell m7 2).trans rfl), ((blk_cell m7 3).trans rfl), ((blk_cell m7 4).trans rfl), ((blk_cell m7 5).trans rfl), ((blk_cell m7 6).trans rfl), ((blk_cell m7 7).trans rfl), ((blk_cell m8 0).trans rfl), ((blk_cell m8 1).trans rfl), ((blk_cell m8 2).trans rfl), ((blk_cell m8 3).trans rfl), ((blk_cell m8 4).trans rfl), ((blk_cell m8 5).trans rfl), ((blk_cell m8 6).trans rfl), ((blk_cell m8 7).trans rfl)⟩ (fun hHeld => ?_)
      clear hK K
      refine norm_ (a' := ?_) ?_ ?_
      rotate_left
      · show Act.put _ (some 23) _ = _
        simp only [Act.put, List.setIfInBounds_toArray, List.set_cons_zero, List.set_cons_succ, i64_w, i32_w]
        rfl
      refine one_ (i := 11) (N := some 31) #[true, true, true, true, true, true, true, true, true, true, true, true, false, true, true, true, false, false, true, false] rfl rfl (by kernel_rfl) (by decide) (fun K hK => ?_)
      have hcon_ := growR_any rate (wrap64 (Xi.f3 - Xk.f3)) w3
      refine goes_ Try.func24 (by kernel_rfl) rfl #[.int .i64 rate, .int .i64 (wrap64 (Xi.f3 - Xk.f3))] (by rfl) rfl rfl (by simp only [List.map_toArray, List.map_cons, List.map_nil]; rfl) ?_
      with_reducible refine (hcon_).mono ?_
      rintro e w11 ⟨rfl, hb⟩
      refine ⟨_, rfl, ?_⟩
      clear hcon_
      replace m3 := blk_below m3 hb
      replace m7 := blk_below m7 hb
      replace m8 := blk_below m8 hb
      replace m9 := blk_below m9 hb
      replace mB := below_step mB hb
      clear hb
      refine hK.out _ _ ⟨((blk_cell m3 0).trans rfl), ((blk_cell m3 1).trans rfl), ((blk_cell m3 2).trans rfl), ((blk_cell m7 0).trans rfl), ((blk_cell m7 1).trans rfl), ((blk_cell m7 2).trans rfl), ((blk_cell m7 3).trans rfl), ((blk_cell m7 4).trans rfl), ((blk_cell m7 5).trans rfl), ((blk_cell m7 6).trans rfl), ((blk_cell m7 7).trans rfl), ((blk_cell m8 0).trans rfl), ((blk_cell m8 1).trans rfl), ((blk_cell m8 2).trans rfl), ((blk_cell m8 3).trans rfl), ((blk_cell m8 4).trans rfl), ((blk_cell m8 5).trans rfl), ((blk_cell m8 6).trans rfl), ((blk_cell m8 7).trans rfl)⟩ (fun hHeld => ?_)
      clear hK K
      refine norm_ (a' := ?_) ?_ ?_
      rotate_left
      · show Act.put _ (some 31) _ = _
        simp only [Act.put, List.setIfInBounds_toArray, List.set_cons_zero, List.set_cons_succ, i64_w, i32_w]
        rfl
      refine one_ (i := 12) (N := some 32) #[true, true, true, true, true, true, true, true, true, true, true, true, true, true, true, true, false, false, true, false] rfl rfl (by kernel_rfl) (by decide) (fun K hK => ?_)
      have hcon_ := grownR_any (offR Xi rate).1 (offR Xi rate).2 (growR rate (wrap64 (Xi.f3 - Xk.f3))) w11
      refine goes_ Try.func95 (by kernel_rfl) rfl #[.agg #[.int .i64 (offR Xi rate).1, .int .i64 (offR Xi rate).2], .int .i64 (growR rate (wrap64 (Xi.f3 - Xk.f3)))] (by rfl) rfl rfl (by simp only [List.map_toArray, List.map_cons, List.map_nil]; rfl) ?_
      with_reducible refine (hcon_).mono ?_
      rintro e w12 ⟨rfl, hb⟩
      refine ⟨_, rfl, ?_⟩
      clear hcon_
      replace m3 := blk_below m3 hb
      replace m7 := blk_below m7 hb
      replace m8 := blk_below m8 hb
      replace m9 := blk_below m9 hb
      replace mB := below_step mB hb
      clear hb
      refine hK.out _ _ ⟨((blk_cell m3 0).trans rfl), ((blk_cell m3 1).trans rfl), ((blk_cell m3 2).trans rfl), ((blk_cell m7 0).trans rfl), ((blk_cell m7 1).trans rfl), ((blk_cell m7 2).trans rfl), ((blk_cell m7 3).trans rfl), ((blk_cell m7 4).trans rfl), ((blk_cell m7 5).trans rfl), ((blk_cell m7 6).trans rfl), ((blk_cell m7 7).trans rfl), ((blk_cell m8 0).trans rfl), ((blk_cell m8 1).trans rfl), ((blk_cell m8 2).trans rfl), ((blk_cell m8 3).trans rfl), ((blk_cell m8 4).trans rfl), ((blk_cell m8 5).trans rfl), ((blk_cell m8 6).trans rfl), ((blk_cell m8 7).trans rfl)⟩ (fun hHeld => ?_)
      clear hK K
      refine norm_ (a' := ?_) ?_ ?_
      rotate_left
      · show Act.put _ (some 32) _ = _
        simp only [Act.put, List.setIfInBounds_toArray, List.set_cons_zero, List.set_cons_succ, i64_w, i32_w]
        rfl
      refine one_ (i := 16) (N := some 36) #[true, true, true, true, true, true, true, true, true, true, true, true, true, true, true, true, true, false, true, false] rfl rfl (by kernel_rfl) (by decide) (fun K hK => ?_)
      have hcon_ := offR_any Xk rate w12
      refine goes_ Try.func67 (by kernel_rfl) rfl #[.agg #[.int .i64 Xk.f0, .int .i64 Xk.f1, .int .i64 Xk.f2, .int .i64 Xk.f3, .int .i64 Xk.f4.f0, .int .i64 Xk.f4.f1, .int .i64 Xk.f5.f0, .int .i64 Xk.f5.f1], .int .i64 rate] (by rfl) rfl rfl (by simp only [List.map_toArray, List.map_cons, List.map_nil]; rfl) ?_
      with_reducible refine (hcon_).mono ?_
      rintro e w16 ⟨rfl, hb⟩
      refine ⟨_, rfl, ?_⟩
      clear hcon_
      replace m3 := blk_below m3 hb
      replace m7 := blk_below m7 hb
      replace m8 := blk_below m8 hb
      replace m9 := blk_below m9 hb
      replace mB := below_step mB hb
      clear hb
      refine hK.out _ _ ⟨((blk_cell m3 0).trans rfl), ((blk_cell m3 1).trans rfl), ((blk_cell m3 2).trans rfl), ((blk_cell m7 0).trans rfl), ((blk_cell m7 1).trans rfl), ((blk_cell m7 2).trans rfl), ((blk_cell m7 3).trans rfl), ((blk_cell m7 4).trans rfl), ((blk_cell m7 5).trans rfl), ((blk_cell m7 6).trans rfl), ((blk_cell m7 7).trans rfl), ((blk_cell m8 0).trans rfl), ((blk_cell m8 1).trans rfl), ((blk_cell m8 2).trans rfl), ((blk_cell m8 3).trans rfl), ((blk_cell m8 4).trans rfl), ((blk_cell m8 5).trans rfl), ((blk_cell m8 6).trans rfl), ((blk_cell m8 7).trans rfl)⟩ (fun hHeld => ?_)
      clear hK K
      refine norm_ (a' := ?_) ?_ ?_
      rotate_left
      · show Act.put _ (some 36) _ = _
        simp only [Act.put, List.setIfInBounds_toArray, List.set_cons_zero, List.set_cons_succ, i64_w, i32_w]
        rfl
      refine one_ (i := 17) (N := some 37) #[true, true, true, true, true, true, true, true, true, true, true, true, true, true, true, true, true, true, true, false] rfl rfl (by kernel_rfl) (by decide) (fun K hK => ?_)
      have hcon_ := meetR_any (wrap64 ((offR Xi rate).1 - (growR rate (wrap64 (Xi.f3 - Xk.f3))))) (wrap64 ((offR Xi rate).2 + (growR rate (wrap64 (Xi.f3 - Xk.f3))))) (offR Xk rate).1 (offR Xk rate).2 w16
      refine goes_ Try.func86 (by kernel_rfl) rfl #[.agg #[.int .i64 (wrap64 ((offR Xi rate).1 - (growR rate (wrap64 (Xi.f3 - Xk.f3))))), .int .i64 (wrap64 ((offR Xi rate).2 + (growR rate (wrap64 (Xi.f3 - Xk.f3)))))], .agg #[.int .i64 (offR Xk rate).1, .int .i64 (offR Xk rate).2]] (by rfl) rfl rfl (by simp only [List.map_toArray, List.map_cons, List.map_nil]; rfl) ?_
      with_reducible refine (hcon_).mono ?_
      rintro e w17 ⟨rfl, hb⟩
      refine ⟨_, rfl, ?_⟩
      clear hcon_
      replace m3 := blk_below m3 hb
      replace m7 := blk_below m7 hb
      replace m8 := blk_below m8 hb
      replace m9 := blk_below m9 hb
      replace mB := below_step mB hb
      clear hb
      refine hK.out _ _ ⟨((blk_cell m3 0).trans rfl), ((blk_cell m3 1).trans rfl), ((blk_cell m3 2).trans rfl), ((blk_cell m7 0).trans rfl), ((blk_cell m7 1).trans rfl), ((blk_cell m7 2).trans rfl), ((blk_cell m7 3).trans rfl), ((blk_cell m7 4).trans rfl), ((blk_cell m7 5).trans rfl), ((blk_cell m7 6).trans rfl), ((blk_cell m7 7).trans rfl), ((blk_cell m8 0).trans rfl), ((blk_cell m8 1).trans rfl), ((blk_cell m8 2).trans rfl), ((blk_cell m8 3).trans rfl), ((blk_cell m8 4).trans rfl), ((blk_cell m8 5).trans rfl), ((blk_cell m8 6).trans rfl), ((blk_cell m8 7).trans rfl)⟩ (fun hHeld => ?_)
      clear hK K
      refine norm_ (a' := ?_) ?_ ?_
      rotate_left
      · show Act.put _ (some 37) _ = _
        simp only [Act.put, List.setIfInBounds_toArray, List.set_cons_zero, List.set_cons_succ, i64_w, i32_w]
        rfl
      exact norm_ (by first | (simp only [putAll, Act.put, List.setIfInBounds_toArray, List.set_cons_zero, List.set_cons_succ]; done) | (simp only [putAll, Act.put, List.setIfInBounds_toArray, List.set_cons_zero, List.set_cons_succ]; rfl)) (hCont (Wx.heap.size) _ ⟨m3, m7, m8, m9, mB, hG9, hn_3_9, hn_7_9, hn_8_9⟩)
  rintro g9 Wg ⟨m3, m7, m8, m9, mB, hG9, hn_3_9, hn_7_9, hn_8_9⟩
  have hHeld : (Wg.cell? ⟨g3, 0, none⟩ = some (.int .i64 par) ∧ Wg.cell? ⟨g3, 1, none⟩ = some (.int .i64 rate) ∧ Wg.cell? ⟨g3, 2, none⟩ = some (.slice (some ad) xs.length c) ∧ Wg.cell? ⟨g7, 0, none⟩ = some (.int .i64 Xi.f0) ∧ Wg.cell? ⟨g7, 1, none⟩ = some (.int .i64 Xi.f1) ∧ Wg.cell? ⟨g7, 2, none⟩ = some (.int .i64 Xi.f2) ∧ Wg.cell? ⟨g7, 3, none⟩ = some (.int .i64 Xi.f3) ∧ Wg.cell? ⟨g7, 4, none⟩ = some (.int .i64 Xi.f4.f0) ∧ Wg.cell? ⟨g7, 5, none⟩ = some (.int .i64 Xi.f4.f1) ∧ Wg.cell? ⟨g7, 6, none⟩ = some (.int .i64 Xi.f5.f0) ∧ Wg.cell? ⟨g7, 7, none⟩ = some (.int .i64 Xi.f5.f1) ∧ Wg.cell? ⟨g8, 0, none⟩ = some (.int .i64 Xk.f0) ∧ Wg.cell? ⟨g8, 1, none⟩ = some (.int .i64 Xk.f1) ∧ Wg.cell? ⟨g8, 2, none⟩ = some (.int .i64 Xk.f2) ∧ Wg.cell? ⟨g8, 3, none⟩ = some (.int .i64 Xk.f3) ∧ Wg.cell? ⟨g8, 4, none⟩ = some (.int .i64 Xk.f4.f0) ∧ Wg.cell? ⟨g8, 5, none⟩ = some (.int .i64 Xk.f4.f1) ∧ Wg.cell? ⟨g8, 6, none⟩ = some (.int .i64 Xk.f5.f0) ∧ Wg.cell? ⟨g8, 7, none⟩ = some (.int .i64 Xk.f5.f1)) := ⟨((blk_cell m3 0).trans rfl), ((blk_cell m3 1).trans rfl), ((blk_cell m3 2).trans rfl), ((blk_cell m7 0).trans rfl), ((blk_cell m7 1).trans rfl), ((blk_cell m7 2).trans rfl), ((blk_cell m7 3).trans rfl), ((blk_cell m7 4).trans rfl), ((blk_cell m7 5).trans rfl), ((blk_cell m7 6).trans rfl), ((blk_cell m7 7).trans rfl), ((blk_cell m8 0).trans rfl), ((blk_cell m8 1).trans rfl), ((blk_cell m8 2).trans rfl), ((blk_cell m8 3).trans rfl), ((blk_cell m8 4).trans rfl), ((blk_cell m8 5).trans rfl), ((blk_cell m8 6).trans rfl), ((blk_cell m8 7).trans rfl)⟩
  refine norm_ (a' := ?_) ?_ ?_
  rotate_left
  · simp only [putAll, Act.put, List.setIfInBounds_toArray, List.set_cons_zero, List.set_cons_succ]
    rfl
  refine last_ (i := 19) (N := none) #[true, true, true, true, true, true, true, true, true, true, true, true, true, true, true, true, true, true, true, true] rfl rfl (by kernel_rfl) (by decide) (fun K hK => ?_)
  have hf0_ := blk_frozen m9 0
  have hc0_ := (blk_cell m9 0).trans rfl
  have hf1_ := blk_frozen m9 1
  have hc1_ := (blk_cell m9 1).trans rfl
  refine skip_ (w1 := ?_) (by rfl) rfl ?_ ?_
  rotate_left
  · go_simp
    rfl
  clear hf0_ hc0_ hf1_ hc1_
  replace m3 : Blk (Wg.setCell ⟨g9, 0, none⟩ (.int .i64 (mx (wrap64 ((offR Xi rate).1 - (growR rate (wrap64 (Xi.f3 - Xk.f3))))) (offR Xk rate).1))) g3 #[.int .i64 par, .int .i64 rate, .slice (some ad) xs.length c] 30 := blk_far (p := ⟨g9, 0, none⟩) m3 hn_3_9 _
  replace m7 : Blk (Wg.setCell ⟨g9, 0, none⟩ (.int .i64 (mx (wrap64 ((offR Xi rate).1 - (growR rate (wrap64 (Xi.f3 - Xk.f3))))) (offR Xk rate).1))) g7 #[.int .i64 Xi.f0, .int .i64 Xi.f1, .int .i64 Xi.f2, .int .i64 Xi.f3, .int .i64 Xi.f4.f0, .int .i64 Xi.f4.f1, .int .i64 Xi.f5.f0, .int .i64 Xi.f5.f1] 46 := blk_far (p := ⟨g9, 0, none⟩) m7 hn_7_9 _
  replace m8 : Blk (Wg.setCell ⟨g9, 0, none⟩ (.int .i64 (mx (wrap64 ((offR Xi rate).1 - (growR rate (wrap64 (Xi.f3 - Xk.f3))))) (offR Xk rate).1))) g8 #[.int .i64 Xk.f0, .int .i64 Xk.f1, .int .i64 Xk.f2, .int .i64 Xk.f3, .int .i64 Xk.f4.f0, .int .i64 Xk.f4.f1, .int .i64 Xk.f5.f0, .int .i64 Xk.f5.f1] 46 := blk_far (p := ⟨g9, 0, none⟩) m8 hn_8_9 _
  replace m9 : Blk (Wg.setCell ⟨g9, 0, none⟩ (.int .i64 (mx (wrap64 ((offR Xi rate).1 - (growR rate (wrap64 (Xi.f3 - Xk.f3))))) (offR Xk rate).1))) g9 #[.int .i64 (mx (wrap64 ((offR Xi rate).1 - (growR rate (wrap64 (Xi.f3 - Xk.f3))))) (offR Xk rate).1), .int .i64 0] 35 := blk_put m9 0 _ rfl
  replace mB : Below w.heap.size w (Wg.setCell ⟨g9, 0, none⟩ (.int .i64 (mx (wrap64 ((offR Xi rate).1 - (growR rate (wrap64 (Xi.f3 - Xk.f3))))) (offR Xk rate).1))) := mB.setCell (p := ⟨g9, 0, none⟩) hG9 _
  replace m3 : Blk ((Wg.setCell ⟨g9, 0, none⟩ (.int .i64 (mx (wrap64 ((offR Xi rate).1 - (growR rate (wrap64 (Xi.f3 - Xk.f3))))) (offR Xk rate).1))).setCell ⟨g9, 1, none⟩ (.int .i64 (mn (wrap64 ((offR Xi rate).2 + (growR rate (wrap64 (Xi.f3 - Xk.f3))))) (offR Xk rate).2))) g3 #[.int .i64 par, .int .i64 rate, .slice (some ad) xs.length c] 30 := blk_far (p := ⟨g9, 1, none⟩) m3 hn_3_9 _
  replace m7 : Blk ((Wg.setCell ⟨g9, 0, none⟩ (.int .i64 (mx (wrap64 ((offR Xi rate).1 - (growR rate (wrap64 (Xi.f3 - Xk.f3))))) (offR Xk rate).1))).setCell ⟨g9, 1, none⟩ (.int .i64 (mn (wrap64 ((offR Xi rate).2 + (growR rate (wrap64 (Xi.f3 - Xk.f3))))) (offR Xk rate).2))) g7 #[.int .i64 Xi.f0, .int .i64 Xi.f1, .int .i64 Xi.f2, .int .i64 Xi.f3, .int .i64 Xi.f4.f0, .int .i64 Xi.f4.f1, .int .i64 Xi.f5.f0, .int .i64 Xi.f5.f1] 46 := blk_far (p := ⟨g9, 1, none⟩) m7 hn_7_9 _
  replace m8 : Blk ((Wg.setCell ⟨g9, 0, none⟩ (.int .i64 (mx (wrap64 ((offR Xi rate).1 - (growR rate (wrap64 (Xi.f3 - Xk.f3))))) (offR Xk rate).1))).setCell ⟨g9, 1, none⟩ (.int .i64 (mn (wrap64 ((offR Xi rate).2 + (growR rate (wrap64 (Xi.f3 - Xk.f3))))) (offR Xk rate).2))) g8 #[.int .i64 Xk.f0, .int .i64 Xk.f1, .int .i64 Xk.f2, .int .i64 Xk.f3, .int .i64 Xk.f4.f0, .int .i64 Xk.f4.f1, .int .i64 Xk.f5.f0, .int .i64 Xk.f5.f1] 46 := blk_far (p := ⟨g9, 1, none⟩) m8 hn_8_9 _
  replace m9 : Blk ((Wg.setCell ⟨g9, 0, none⟩ (.int .i64 (mx (wrap64 ((offR Xi rate).1 - (growR rate (wrap64 (Xi.f3 - Xk.f3))))) (offR Xk rate).1))).setCell ⟨g9, 1, none⟩ (.int .i64 (mn (wrap64 ((offR Xi rate).2 + (growR rate (wrap64 (Xi.f3 - Xk.f3))))) (offR Xk rate).2))) g9 #[.int .i64 (mx (wrap64 ((offR Xi rate).1 - (growR rate (wrap64 (Xi.f3 - Xk.f3))))) (offR Xk rate).1), .int .i64 (mn (wrap64 ((offR Xi rate).2 + (growR rate (wrap64 (Xi.f3 - Xk.f3))))) (offR Xk rate).2)] 35 := blk_put m9 1 _ rfl
  replace mB : Below w.heap.size w ((Wg.setCell ⟨g9, 0, none⟩ (.int .i64 (mx (wrap64 ((offR Xi rate).1 - (growR rate (wrap64 (Xi.f3 - Xk.f3))))) (offR Xk rate).1))).setCell ⟨g9, 1, none⟩ (.int .i64 (mn (wrap64 ((offR Xi rate).2 + (growR rate (wrap64 (Xi.f3 - Xk.f3))))) (offR Xk rate).2))) := mB.setCell (p := ⟨g9, 1, none⟩) hG9 _
  refine hK.out _ _ ?_
  clear hK K
  refine done_ (by kernel_rfl) ?_
  generalize hW_ : ((Wg.setCell ⟨g9, 0, none⟩ (.int .i64 (mx (wrap64 ((offR Xi rate).1 - (growR rate (wrap64 (Xi.f3 - Xk.f3))))) (offR Xk rate).1))).setCell ⟨g9, 1, none⟩ (.int .i64 (mn (wrap64 ((offR Xi rate).2 + (growR rate (wrap64 (Xi.f3 - Xk.f3))))) (offR Xk rate).2))) = W5 at m3 m7 m8 m9 mB ⊢
  clear hW_
  generalize hM1 : (mx (wrap64 ((offR Xi rate).1 - (growR rate (wrap64 (Xi.f3 - Xk.f3))))) (offR Xk rate).1) = M1 at *
  generalize hM2 : (mn (wrap64 ((offR Xi rate).2 + (growR rate (wrap64 (Xi.f3 - Xk.f3))))) (offR Xk rate).2) = M2 at *
  have H1 := Lib.hid hM1
  have H2 := Lib.hid hM2
  clear hM1 hM2
  have c9_0 := (blk_cell m9 0).trans rfl
  have c9_1 := (blk_cell m9 1).trans rfl
  go_wp2
  go_ret
  exact ⟨by rw [HC.out]; rfl, mB⟩
end Go.Proofs.Ytcjdhajdoikojaa.Clk
namespace Go.Proofs.Ytcjdhajdoikojaa.Pr
open Go.RowKit Go.Proofs.YtcjdhajdoikojaaW.PrintWords Go.Proofs.YtcjdhajdoikojaaW.PrintLast Go.Proofs.YtcjdhajdoikojaaW.PrintMore Go.Proofs.Ytcjdhajdoikojaa.Clk
set_option linter.unusedVariables false
def isobathref05_contradict.f (a0_0 : Int) (a0_1 : Int) (l0_2 : List (S46)) (a1 : Int) (a2 : Int) : Option (Bool) :=
  if 0 ≤ a1 ∧ a1 < (l0_2.length : Int) ∧ 0 ≤ a2 ∧ a2 < (l0_2.length : Int) then some (conR a0_1 (rd_T46 l0_2 a1) (rd_T46 l0_2 a2)) else none
theorem isobathref05_contradict.calls (a0_0 : Int) (a0_1 : Int) (A0_2 : Option Addr) (c0_2 : Nat) (l0_2 : List (S46)) (a1 : Int) (a2 : Int) (r : Bool) (w : World) (hr0_2 : Kd.C k46 w A0_2 l0_2.length l0_2) (hc0_2 : l0_2.length ≤ c0_2) (h : isobathref05_contradict.f a0_0 a0_1 l0_2 a1 a2 = some r) :
    Calls Try.prog 77 #[.agg #[.int .i64 a0_0, .int .i64 a0_1, .slice A0_2 l0_2.length c0_2], .int .i64 a1, .int .i64 a2] w fun e w' => e = .returned (.bool r) ∧ Below w.heap.size w w' := by
  unfold isobathref05_contradict.f at h
  split at h
  case isTrue hh =>
    cases h
    exact conR_any a0_0 a0_1 A0_2 c0_2 l0_2 a1 a2 hh.1 hh.2.1 hh.2.2.1 hh.2.2.2 w hr0_2 hc0_2
  case isFalse => cases h
end Go.Proofs.Ytcjdhajdoikojaa.Pr
end
section
-- PRINTED by print.py (a twelfth state) out of the translation. Not trusted: Lean checks it.
namespace Go.Proofs.Ytcjdhajdoikojaa.Pr
open Go.RowKit Go.Proofs.YtcjdhajdoikojaaW.PrintWords Go.Proofs.YtcjdhajdoikojaaW.PrintLast Go.Proofs.YtcjdhajdoikojaaW.PrintMore
attribute [local go_sem] max2_int min2_int max_two min_two
set_option linter.unusedVariables false
set_option linter.unusedSimpArgs false

/-! ### isobathref05_contradiction: function 75 -/
mutual
def isobathref05_contradiction.l0 : Nat → Int → Int → Int → List (S46) → Option (Int × Int)
  | 0, _, _, _, _ => none
  | k + 1, x4, x382000, x382001, x382002 => if x4 < (x382002.length : Int) then (isobathref05_contradiction.l1 k x4 0 x382000 x382001 x382002) else (some ((-1), (-1)))
def isobathref05_contradiction.l1 : Nat → Int → Int → Int → Int → List (S46) → Option (Int × Int)
  | 0, _, _, _, _, _ => none
  | k + 1, x4, x5, x382000, x382001, x382002 => if x5 < x4 then ((isobathref05_contradict.f x382000 x382001 x382002 x5 x4).bind fun t382 => (if t382 = true then (some (x5, x4)) else (isobathref05_contradiction.l1 k x4 (wrap64 (x5 + 1)) x382000 x382001 x382002))) else (isobathref05_contradiction.l0 k (wrap64 (x4 + 1)) x382000 x382001 x382002)
end
def isobathref05_contradiction.f (k : Nat) (a0_0 : Int) (a0_1 : Int) (l0_2 : List (S46)) : Option (Int × Int) := isobathref05_contradiction.l0 k 0 a0_0 a0_1 l0_2
set_option maxHeartbeats 8000000 in
set_option maxRecDepth 100000 in
theorem isobathref05_contradiction.calls (k : Nat) (a0_0 : Int) (a0_1 : Int) (A0_2 : Option Addr) (c0_2 : Nat) (l0_2 : List (S46)) (r1 : Int) (r2 : Int) (w : World) (hr0_2 : Kd.C k46 w A0_2 l0_2.length l0_2) (hc0_2 : l0_2.length ≤ c0_2) (h : isobathref05_contradiction.f k a0_0 a0_1 l0_2 = some (r1, r2)) :
    Calls Try.prog 75 #[.agg #[.int .i64 a0_0, .int .i64 a0_1, .slice A0_2 l0_2.length c0_2]] w fun e w' => e = .returned (.tuple #[.int .i64 r1, .int .i64 r2]) ∧ Below w.heap.size w w' := by
  have hu30 := Try.underlying30
  have HR0_2 := Aside0.mk hr0_2
  have HC0_2 := Aside0.mk hc0_2
  clear hr0_2 hc0_2
  have HB := Aside0.mk (Below.refl w.heap.size w)
  have H : (isobathref05_contradiction.l0 k 0 a0_0 a0_1 l0_2) = some (r1, r2) := h
  clear h
  have H' := Aside0.mk H
  clear H
  go_enter Try.func75, Try.ntmps75
  go_wp2_with (first | ((with_reducible refine gate_dst (N := 1) rfl ?_); refine box_event ?hg (N := 1) ?hd (cs := #[.int .i64 a0_0, .int .i64 a0_1, .slice A0_2 l0_2.length c0_2]) (t := 30) ?hr ?_; (case hd => rfl); (case hg => rfl); (case hr => first | (go_simp; done) | (go_simp; rfl)); intro gb381 hg w2 hbox hb; have n0_ := Aside0.mk (below_step (by repeat (first | (with_reducible first | exact HB.out | apply below_alloc | apply pw_below_drewN | apply below_drew1) | exact HB.out)) hb); have n1_ := Aside0.mk (hbox); have n2_ := Aside0.mk ((by rw [hg]; exact (below_size (by repeat (first | (with_reducible first | exact HB.out | apply below_alloc | apply pw_below_drewN | apply below_drew1) | exact HB.out))) : w.heap.size ≤ gb381)); have n3_ := Aside0.mk ((by rw [hg]; exact (below_size (by repeat (first | (with_reducible first | exact HB.out | apply below_alloc | apply pw_below_drewN | apply below_drew1) | exact HB.out))) : w.heap.size ≤ gb381)); clear HB; have HB := n0_; have BK381 := n1_; have GW381 := n2_; have GE381 := n3_; clear n0_ n1_ n2_ n3_; clear hb hbox hg))
  go_loopg [4] k (fun kq v4 w' => ∃ (x4_1 : Int), v4 = .int .i64 x4_1 ∧ Aside0 (isobathref05_contradiction.l0 kq x4_1 a0_0 a0_1 l0_2 = some (r1, r2)) ∧ Aside0 (kq ≤ k) ∧ Aside0 (w'.heap[gb381]? = some (.cells #[.int .i64 a0_0, .int .i64 a0_1, (.slice A0_2 l0_2.length c0_2)] 30 (0, 0))) ∧ Aside0 (Below w.heap.size w w'))
  case atStart => exact ⟨(0), (by first | rfl | (simp; done) | (simp [*]; done)), H', ⟨Nat.le_refl _⟩, ⟨by (with_reducible repeat (first | refine blk_drewN ?_ _ | refine blk_drew ?_ | refine blk_alloc ?_ _)); exact BK381.out⟩, ⟨by repeat (first | (with_reducible first | exact HB.out | apply below_alloc | apply pw_below_drewN | apply below_drew1 | refine below_set ?_ GE381.out) | exact HB.out)⟩⟩
  case round =>
    clear H'
    try clear p2
    obtain ⟨x4_1, rfl, HA, HK1, BK381, HB⟩ := hrel
    cases gk with
    | zero => exact absurd HA.out (by simp [isobathref05_contradiction.l0])
    | succ k1 =>
      have H := HA.out
      clear HA
      simp only [isobathref05_contradiction.l0] at H
      by_cases c3 : x4_1 < (l0_2.length : Int)
      · rw [if_pos c3] at H
        have c3b0 : decide (x4_1 < (l0_2.length : Int)) = true := decide_eq_true c3
        clear c3
        have H' := Aside0.mk H
        clear H
        have hcz4_0 : wr.cell? ⟨gb381, 0, none⟩ = some (.int .i64 a0_0) := (blk_cell BK381.out 0).trans rfl
        have hcz4_1 : wr.cell? ⟨gb381, 1, none⟩ = some (.int .i64 a0_1) := (blk_cell BK381.out 1).trans rfl
        have hcz4_2 : wr.cell? ⟨gb381, 2, none⟩ = some (.slice A0_2 l0_2.length c0_2) := (blk_cell BK381.out 2).trans rfl
        have hfz4_0 := blk_frozen BK381.out 0
        have hfz4_1 := blk_frozen BK381.out 1
        have hfz4_2 := blk_frozen BK381.out 2
        go_wp2
        go_loopg [5] k1 (fun kq v5 w' => ∃ (x5_2 : Int), v5 = .int .i64 x5_2 ∧ Aside0 (isobathref05_contradiction.l1 kq x4_1 x5_2 a0_0 a0_1 l0_2 = some (r1, r2)) ∧ Aside0 (kq ≤ k1) ∧ Aside0 (w'.heap[gb381]? = some (.cells #[.int .i64 a0_0, .int .i64 a0_1, (.slice A0_2 l0_2.length c0_2)] 30 (0, 0))) ∧ Aside0 (Below w.heap.size w w'))
        case atStart => exact ⟨(0), (by first | rfl | (simp; done) | (simp [*]; done)), H', ⟨Nat.le_refl _⟩, ⟨by (with_reducible repeat (first | refine blk_drewN ?_ _ | refine blk_drew ?_ | refine blk_alloc ?_ _)); exact BK381.out⟩, ⟨by repeat (first | (with_reducible first | exact HB.out | apply below_alloc | apply pw_below_drewN | apply below_drew1 | refine below_set ?_ GE381.out) | exact HB.out)⟩⟩
        case round =>
          clear H'
          try clear p2
          try clear c3
          try clear c3b0
          try clear hcz4_0
          try clear hcz4_1
          try clear hcz4_2
          try clear hfz4_0
          try clear hfz4_1
          try clear hfz4_2
          try clear p2
          obtain ⟨x5_2, rfl, HA, HK2, BK381, HB⟩ := hrel
          cases gk with
          | zero => exact absurd HA.out (by simp [isobathref05_contradiction.l1])
          | succ k2 =>
            have H := HA.out
            clear HA
            simp only [isobathref05_contradiction.l1] at H
            by_cases c5 : x5_2 < x4_1
            · rw [if_pos c5] at H
              have c5b0 : decide (x5_2 < x4_1) = true := decide_eq_true c5
              clear c5
              replace H := Option.bind_eq_some_iff.mp H
              obtain ⟨t382, A60, H⟩ := H
              replace H : (if t382 = true then (some (x5_2, x4_1)) else (isobathref05_contradiction.l1 k2 x4_1 (wrap64 (x5_2 + 1)) a0_0 a0_1 l0_2)) = some (r1, r2) := H
              have A6 := Aside0.mk A60
              clear A60
              by_cases c7 : t382 = true
              · subst c7
                have H1 : (some (x5_2, x4_1)) = some (r1, r2) := by rw [if_pos rfl] at H; exact H
                clear H
                have H := H1
                clear H1
                simp only [Option.some.injEq, Prod.mk.injEq] at H
                obtain ⟨rfl, rfl⟩ := H
                have hcz8_0 : wr.cell? ⟨gb381, 0, none⟩ = some (.int .i64 a0_0) := (blk_cell BK381.out 0).trans rfl
                have hcz8_1 : wr.cell? ⟨gb381, 1, none⟩ = some (.int .i64 a0_1) := (blk_cell BK381.out 1).trans rfl
                have hcz8_2 : wr.cell? ⟨gb381, 2, none⟩ = some (.slice A0_2 l0_2.length c0_2) := (blk_cell BK381.out 2).trans rfl
                have hfz8_0 := blk_frozen BK381.out 0
                have hfz8_1 := blk_frozen BK381.out 1
                have hfz8_2 := blk_frozen BK381.out 2
                go_wp2_with (first | ((with_reducible refine gate_callee (f := 77) rfl ?_); refine goesL_ (some 21) rfl rfl Try.func77 (by kernel_rfl) rfl #[.agg #[.int .i64 a0_0, .int .i64 a0_1, .slice A0_2 l0_2.length c0_2], .int .i64 x5_2, .int .i64 x4_1] rfl (by (try simp only [List.map_toArray, List.map_cons, List.map_nil]); first | done | rfl | (simp only [List.length_drop, List.length_take]; rfl)) ?_; (with_reducible refine (isobathref05_contradict.calls a0_0 a0_1 _ _ l0_2 x5_2 x4_1 true _ ?side1 ?side2 A6.out).mono ?_); (case side1 => repeat (first | exact (Kd.C_below HR0_2.out HB.out) | (with_reducible refine Kd.C_alloc ?_ _) | (with_reducible refine Kd.C_drewN ?_ _) | (with_reducible refine Kd.C_drew ?_))); (case side2 => exact HC0_2.out); rintro e w9 ⟨rfl, hb⟩; refine ⟨_, rfl, ?_⟩; have n0_ := Aside0.mk (blk_below (g := gb381) (o := .cells #[.int .i64 a0_0, .int .i64 a0_1, .slice A0_2 l0_2.length c0_2] 30 (0, 0)) (by (with_reducible repeat (first | refine blk_drewN ?_ _ | refine blk_drew ?_ | refine blk_alloc ?_ _)); exact BK381.out) hb); have n1_ := Aside0.mk (below_step (by repeat (first | (with_reducible first | exact HB.out | apply below_alloc | apply pw_below_drewN | apply below_drew1 | refine below_set ?_ GE381.out) | exact HB.out)) hb); clear BK381; clear HB; have BK381 := n0_; have HB := n1_; clear n0_ n1_; (try clear hb); (try clear hb2); (try clear hk); (try clear hi)))
                go_ret2
                exact ⟨by first | rfl | (simp [errW_none, errW_some] <;> rfl) | (simp [*, errW_none, errW_some] <;> rfl), by repeat (first | (with_reducible first | exact HB.out | apply below_alloc | apply pw_below_drewN | apply below_drew1 | refine below_set ?_ GE381.out) | exact HB.out)⟩
              · replace c7 := Bool.eq_false_iff.mpr c7
                subst c7
                have H1 : (isobathref05_contradiction.l1 k2 x4_1 (wrap64 (x5_2 + 1)) a0_0 a0_1 l0_2) = some (r1, r2) := by rw [if_neg (show ¬ (false = true) by decide)] at H; exact H
                clear H
                have H := H1
                clear H1
                have H' := Aside0.mk H
                clear H
                have hcz10_0 : wr.cell? ⟨gb381, 0, none⟩ = some (.int .i64 a0_0) := (blk_cell BK381.out 0).trans rfl
                have hcz10_1 : wr.cell? ⟨gb381, 1, none⟩ = some (.int .i64 a0_1) := (blk_cell BK381.out 1).trans rfl
                have hcz10_2 : wr.cell? ⟨gb381, 2, none⟩ = some (.slice A0_2 l0_2.length c0_2) := (blk_cell BK381.out 2).trans rfl
                have hfz10_0 := blk_frozen BK381.out 0
                have hfz10_1 := blk_frozen BK381.out 1
                have hfz10_2 := blk_frozen BK381.out 2
                go_wp2_with (first | ((with_reducible refine gate_callee (f := 77) rfl ?_); refine goesL_ (some 21) rfl rfl Try.func77 (by kernel_rfl) rfl #[.agg #[.int .i64 a0_0, .int .i64 a0_1, .slice A0_2 l0_2.length c0_2], .int .i64 x5_2, .int .i64 x4_1] rfl (by (try simp only [List.map_toArray, List.map_cons, List.map_nil]); first | done | rfl | (simp only [List.length_drop, List.length_take]; rfl)) ?_; (with_reducible refine (isobathref05_contradict.calls a0_0 a0_1 _ _ l0_2 x5_2 x4_1 false _ ?side1 ?side2 A6.out).mono ?_); (case side1 => repeat (first | exact (Kd.C_below HR0_2.out HB.out) | (with_reducible refine Kd.C_alloc ?_ _) | (with_reducible refine Kd.C_drewN ?_ _) | (with_reducible refine Kd.C_drew ?_))); (case side2 => exact HC0_2.out); rintro e w11 ⟨rfl, hb⟩; refine ⟨_, rfl, ?_⟩; have n0_ := Aside0.mk (blk_below (g := gb381) (o := .cells #[.int .i64 a0_0, .int .i64 a0_1, .slice A0_2 l0_2.length c0_2] 30 (0, 0)) (by (with_reducible repeat (first | refine blk_drewN ?_ _ | refine blk_drew ?_ | refine blk_alloc ?_ _)); exact BK381.out) hb); have n1_ := Aside0.mk (below_step (by repeat (first | (with_reducible first | exact HB.out | apply below_alloc | apply pw_below_drewN | apply below_drew1 | refine below_set ?_ GE381.out) | exact HB.out)) hb); clear BK381; clear HB; have BK381 := n0_; have HB := n1_; clear n0_ n1_; (try clear hb); (try clear hb2); (try clear hk); (try clear hi)))
                go_roundg k2
                case measure => have := HK1.out; have := HK2.out; omega
                case rel => exact ⟨(wrap64 (x5_2 + 1)), (by first | rfl | (simp; done) | (simp [*]; done)), H', ⟨by have := HK1.out; have := HK2.out; omega⟩, ⟨by (with_reducible repeat (first | refine blk_drewN ?_ _ | refine blk_drew ?_ | refine blk_alloc ?_ _)); exact BK381.out⟩, ⟨by repeat (first | (with_reducible first | exact HB.out | apply below_alloc | apply pw_below_drewN | apply below_drew1 | refine below_set ?_ GE381.out) | exact HB.out)⟩⟩
            · rw [if_neg c5] at H
              have c5b0 : decide (x5_2 < x4_1) = false := decide_eq_false c5
              clear c5
              have H' := Aside0.mk H
              clear H
              go_wp2
              go_roundg k2
              case measure => have := HK1.out; have := HK2.out; omega
              case rel => exact ⟨(wrap64 (x4_1 + 1)), (by first | rfl | (simp; done) | (simp [*]; done)), H', ⟨by have := HK1.out; have := HK2.out; omega⟩, ⟨by (with_reducible repeat (first | refine blk_drewN ?_ _ | refine blk_drew ?_ | refine blk_alloc ?_ _)); exact BK381.out⟩, ⟨by repeat (first | (with_reducible first | exact HB.out | apply below_alloc | apply pw_below_drewN | apply below_drew1 | refine below_set ?_ GE381.out) | exact HB.out)⟩⟩
      · rw [if_neg c3] at H
        have c3b0 : decide (x4_1 < (l0_2.length : Int)) = false := decide_eq_false c3
        clear c3
        simp only [Option.some.injEq, Prod.mk.injEq] at H
        obtain ⟨rfl, rfl⟩ := H
        have hcz12_0 : wr.cell? ⟨gb381, 0, none⟩ = some (.int .i64 a0_0) := (blk_cell BK381.out 0).trans rfl
        have hcz12_1 : wr.cell? ⟨gb381, 1, none⟩ = some (.int .i64 a0_1) := (blk_cell BK381.out 1).trans rfl
        have hcz12_2 : wr.cell? ⟨gb381, 2, none⟩ = some (.slice A0_2 l0_2.length c0_2) := (blk_cell BK381.out 2).trans rfl
        have hfz12_0 := blk_frozen BK381.out 0
        have hfz12_1 := blk_frozen BK381.out 1
        have hfz12_2 := blk_frozen BK381.out 2
        go_wp2
        go_ret2
        exact ⟨by first | rfl | (simp [errW_none, errW_some] <;> rfl) | (simp [*, errW_none, errW_some] <;> rfl), by repeat (first | (with_reducible first | exact HB.out | apply below_alloc | apply pw_below_drewN | apply below_drew1 | refine below_set ?_ GE381.out) | exact HB.out)⟩

end Go.Proofs.Ytcjdhajdoikojaa.Pr
end
section
-- PRINTED by print.py (a twelfth state) out of the translation. Not trusted: Lean checks it.
namespace Go.Proofs.Ytcjdhajdoikojaa.Pr
open Go.RowKit Go.Proofs.YtcjdhajdoikojaaW.PrintWords Go.Proofs.YtcjdhajdoikojaaW.PrintLast Go.Proofs.YtcjdhajdoikojaaW.PrintMore
attribute [local go_sem] max2_int min2_int max_two min_two
set_option linter.unusedVariables false
set_option linter.unusedSimpArgs false

/-! ### isobathref05_Sound: function 69 -/
def isobathref05_Sound.f (k : Nat) (a0_0 : Int) (a0_1 : Int) (l0_2 : List (S46)) : Option (Bool) := (isobathref05_contradiction.f k a0_0 a0_1 l0_2).bind fun bt384 => (some (decide (bt384.1 < 0)))
set_option maxHeartbeats 8000000 in
set_option maxRecDepth 100000 in
theorem isobathref05_Sound.calls (k : Nat) (a0_0 : Int) (a0_1 : Int) (A0_2 : Option Addr) (c0_2 : Nat) (l0_2 : List (S46)) (r : Bool) (w : World) (hr0_2 : Kd.C k46 w A0_2 l0_2.length l0_2) (hc0_2 : l0_2.length ≤ c0_2) (h : isobathref05_Sound.f k a0_0 a0_1 l0_2 = some r) :
    Calls Try.prog 69 #[.agg #[.int .i64 a0_0, .int .i64 a0_1, .slice A0_2 l0_2.length c0_2]] w fun e w' => e = .returned (.bool r) ∧ Below w.heap.size w w' := by
  have hu30 := Try.underlying30
  have HR0_2 := Aside0.mk hr0_2
  have HC0_2 := Aside0.mk hc0_2
  clear hr0_2 hc0_2
  have HB := Aside0.mk (Below.refl w.heap.size w)
  have H : ((isobathref05_contradiction.f k a0_0 a0_1 l0_2).bind fun bt384 => (some (decide (bt384.1 < 0)))) = some r := h
  clear h
  replace H := Option.bind_eq_some_iff.mp H
  obtain ⟨⟨t384, t385⟩, A20, H⟩ := H
  replace H : (some (decide (t384 < 0))) = some r := H
  have A2 := Aside0.mk A20
  clear A20
  obtain rfl := Option.some.inj H
  go_enter Try.func69, Try.ntmps69
  go_wp2_with (first | ((with_reducible refine gate_dst (N := 1) rfl ?_); refine box_event ?hg (N := 1) ?hd (cs := #[.int .i64 a0_0, .int .i64 a0_1, .slice A0_2 l0_2.length c0_2]) (t := 30) ?hr ?_; (case hd => rfl); (case hg => rfl); (case hr => first | (go_simp; done) | (go_simp; rfl)); intro gb383 hg w3 hbox hb; have n0_ := Aside0.mk (below_step (by repeat (first | (with_reducible first | exact HB.out | apply below_alloc | apply pw_below_drewN | apply below_drew1) | exact HB.out)) hb); have n1_ := Aside0.mk (hbox); have n2_ := Aside0.mk ((by rw [hg]; exact (below_size (by repeat (first | (with_reducible first | exact HB.out | apply below_alloc | apply pw_below_drewN | apply below_drew1) | exact HB.out))) : w.heap.size ≤ gb383)); have n3_ := Aside0.mk ((by rw [hg]; exact (below_size (by repeat (first | (with_reducible first | exact HB.out | apply below_alloc | apply pw_below_drewN | apply below_drew1) | exact HB.out))) : w.heap.size ≤ gb383)); clear HB; have HB := n0_; have BK383 := n1_; have GW383 := n2_; have GE383 := n3_; clear n0_ n1_ n2_ n3_; clear hb hbox hg; have hcz4_0 : w3.cell? ⟨gb383, 0, none⟩ = some (.int .i64 a0_0) := (blk_cell BK383.out 0).trans rfl; have hcz4_1 : w3.cell? ⟨gb383, 1, none⟩ = some (.int .i64 a0_1) := (blk_cell BK383.out 1).trans rfl; have hcz4_2 : w3.cell? ⟨gb383, 2, none⟩ = some (.slice A0_2 l0_2.length c0_2) := (blk_cell BK383.out 2).trans rfl; have hfz4_0 := blk_frozen BK383.out 0; have hfz4_1 := blk_frozen BK383.out 1; have hfz4_2 := blk_frozen BK383.out 2) | ((with_reducible refine gate_callee (f := 75) rfl ?_); refine goesL_ (some 7) rfl rfl Try.func75 (by kernel_rfl) rfl #[.agg #[.int .i64 a0_0, .int .i64 a0_1, .slice A0_2 l0_2.length c0_2]] rfl (by (try simp only [List.map_toArray, List.map_cons, List.map_nil]); first | done | rfl | (simp only [List.length_drop, List.length_take]; rfl)) ?_; (with_reducible refine (isobathref05_contradiction.calls k a0_0 a0_1 _ _ l0_2 t384 t385 _ ?side1 ?side2 A2.out).mono ?_); (case side1 => repeat (first | exact (Kd.C_below HR0_2.out HB.out) | (with_reducible refine Kd.C_alloc ?_ _) | (with_reducible refine Kd.C_drewN ?_ _) | (with_reducible refine Kd.C_drew ?_))); (case side2 => exact HC0_2.out); rintro e w5 ⟨rfl, hb⟩; refine ⟨_, rfl, ?_⟩; have n0_ := Aside0.mk (blk_below (g := gb383) (o := .cells #[.int .i64 a0_0, .int .i64 a0_1, .slice A0_2 l0_2.length c0_2] 30 (0, 0)) (by (with_reducible repeat (first | refine blk_drewN ?_ _ | refine blk_drew ?_ | refine blk_alloc ?_ _)); exact BK383.out) hb); have n1_ := Aside0.mk (below_step (by repeat (first | (with_reducible first | exact HB.out | apply below_alloc | apply pw_below_drewN | apply below_drew1 | refine below_set ?_ GE383.out) | exact HB.out)) hb); clear BK383; clear HB; have BK383 := n0_; have HB := n1_; clear n0_ n1_; (try clear hb); (try clear hb2); (try clear hk); (try clear hi)))
  go_ret
  exact ⟨by first | rfl | (simp [errW_none, errW_some] <;> rfl) | (simp [*, errW_none, errW_some] <;> rfl), by repeat (first | (with_reducible first | exact HB.out | apply below_alloc | apply pw_below_drewN | apply below_drew1 | refine below_set ?_ GE383.out) | exact HB.out)⟩

end Go.Proofs.Ytcjdhajdoikojaa.Pr
end
section
-- PRINTED by print.py (a twelfth state) out of the translation. Not trusted: Lean checks it.
namespace Go.Proofs.Ytcjdhajdoikojaa.Pr
open Go.RowKit Go.Proofs.YtcjdhajdoikojaaW.PrintWords Go.Proofs.YtcjdhajdoikojaaW.PrintLast Go.Proofs.YtcjdhajdoikojaaW.PrintMore
attribute [local go_sem] max2_int min2_int max_two min_two
set_option linter.unusedVariables false
set_option linter.unusedSimpArgs false

/-! ### isobathref05_at: function 70 -/
def isobathref05_at.l0 : Nat → Int → Int → Int → Int → List (S46) → Int → Int → Option (Int × Int)
  | 0, _, _, _, _, _, _, _ => none
  | k + 1, x1, x6, x387000, x387001, x387002, x389000, x389001 => if x6 < (x387002.length : Int) then (if 0 ≤ x6 then ((isobathref05_offset.f k ((rd_T46 x387002 x6).f0) ((rd_T46 x387002 x6).f1) ((rd_T46 x387002 x6).f2) ((rd_T46 x387002 x6).f3) ((rd_T46 x387002 x6).f4.f0) ((rd_T46 x387002 x6).f4.f1) ((rd_T46 x387002 x6).f5.f0) ((rd_T46 x387002 x6).f5.f1) x387001).bind fun bt391 => ((isobathref05_Growth.f k x387001 (wrap64 (x1 - ((rd_T46 x387002 x6).f3)))).bind fun t393 => ((isobathref05_grown.f bt391.1 bt391.2 t393).bind fun bt394 => ((isobathref05_meet.f x389000 x389001 bt394.1 bt394.2).bind fun bt396 => (isobathref05_at.l0 k x1 (wrap64 (x6 + 1)) x387000 x387001 x387002 bt396.1 bt396.2))))) else (none)) else (some (x389000, x389001))
def isobathref05_at.f (k : Nat) (a0_0 : Int) (a0_1 : Int) (l0_2 : List (S46)) (a1 : Int) : Option (Int × Int) := isobathref05_at.l0 k a1 0 a0_0 a0_1 l0_2 (-4611686018427387904) 4611686018427387904
def isobathref05_at.T6 : Bool × List (List Nat × List Nat) := (true, [([], []), ([], []), ([], []), ([2], [2]), ([1, 3], [1, 3]), ([], []), ([5], [5]), ([], []), ([], []), ([8], [8]), ([7, 9], [7, 9]), ([6, 10, 4], [6, 10]), ([4, 11, 11], [4, 11]), ([0, 12, 12], [0, 12]), ([13, 13, 0, 1, 2, 3, 4, 5, 6, 7, 8, 9, 10, 11, 12, 13], [13])])
def isobathref05_at.B6 : List Nat := [0, 0, 0, 4, 14, 0, 32, 0, 0, 256, 896, 2046, 4094, 8191, 16383]
theorem isobathref05_at.tab6 : rtab .any (opsOf Try.f70 6) = isobathref05_at.T6 := by kernel_rfl
theorem isobathref05_at.bits6 : waitsOk isobathref05_at.T6.2 isobathref05_at.B6 = true := by kernel_rfl
set_option maxHeartbeats 8000000 in
set_option maxRecDepth 100000 in
theorem isobathref05_at.calls (k : Nat) (a0_0 : Int) (a0_1 : Int) (A0_2 : Option Addr) (c0_2 : Nat) (l0_2 : List (S46)) (a1 : Int) (r1 : Int) (r2 : Int) (w : World) (hr0_2 : Kd.C k46 w A0_2 l0_2.length l0_2) (hc0_2 : l0_2.length ≤ c0_2) (h : isobathref05_at.f k a0_0 a0_1 l0_2 a1 = some (r1, r2)) :
    Calls Try.prog 70 #[.agg #[.int .i64 a0_0, .int .i64 a0_1, .slice A0_2 l0_2.length c0_2], .int .i64 a1] w fun e w' => e = .returned (.agg #[.int .i64 r1, .int .i64 r2]) ∧ Below w.heap.size w w' := by
  have hu30 := Try.underlying30
  have hu35 := Try.underlying35
  have hu46 := Try.underlying46
  have HR0_2 := Aside0.mk hr0_2
  have HC0_2 := Aside0.mk hc0_2
  clear hr0_2 hc0_2
  have HB := Aside0.mk (Below.refl w.heap.size w)
  have H : (isobathref05_at.l0 k a1 0 a0_0 a0_1 l0_2 (-4611686018427387904) 4611686018427387904) = some (r1, r2) := h
  clear h
  have H' := Aside0.mk H
  clear H
  go_enter Try.func70, Try.ntmps70
  go_wp2_with (first | ((with_reducible refine gate_dst (N := 2) rfl ?_); refine box_event ?hg (N := 2) ?hd (cs := #[.int .i64 a0_0, .int .i64 a0_1, .slice A0_2 l0_2.length c0_2]) (t := 30) ?hr ?_; (case hd => rfl); (case hg => rfl); (case hr => first | (go_simp; done) | (go_simp; rfl)); intro gb386 hg w3 hbox hb; have n0_ := Aside0.mk (below_step (by repeat (first | (with_reducible first | exact HB.out | apply below_alloc | apply pw_below_drewN | apply below_drew1) | exact HB.out)) hb); have n1_ := Aside0.mk (hbox); have n2_ := Aside0.mk ((by rw [hg]; exact (below_size (by repeat (first | (with_reducible first | exact HB.out | apply below_alloc | apply pw_below_drewN | apply below_drew1) | exact HB.out))) : w.heap.size ≤ gb386)); have n3_ := Aside0.mk ((by rw [hg]; exact (below_size (by repeat (first | (with_reducible first | exact HB.out | apply below_alloc | apply pw_below_drewN | apply below_drew1) | exact HB.out))) : w.heap.size ≤ gb386)); clear HB; have HB := n0_; have BK386 := n1_; have GW386 := n2_; have GE386 := n3_; clear n0_ n1_ n2_ n3_; clear hb hbox hg) | ((with_reducible refine gate_dst (N := 4) rfl ?_); refine box_event ?hg (N := 4) ?hd (cs := #[.int .i64 0, .int .i64 0]) (t := 35) ?hr ?_; (case hd => rfl); (case hg => rfl); (case hr => first | (go_simp; done) | (go_simp; rfl)); intro gb387 hg w4 hbox hb; have n0_ := Aside0.mk (blk_below (g := gb386) (o := .cells #[.int .i64 a0_0, .int .i64 a0_1, .slice A0_2 l0_2.length c0_2] 30 (0, 0)) (by (with_reducible repeat (first | refine blk_drewN ?_ _ | refine blk_drew ?_ | refine blk_alloc ?_ _)); exact BK386.out) hb); have n1_ := Aside0.mk (below_step (by repeat (first | (with_reducible first | exact HB.out | apply below_alloc | apply pw_below_drewN | apply below_drew1 | refine below_set ?_ GE386.out) | exact HB.out)) hb); have n2_ := Aside0.mk (hbox); have n3_ := Aside0.mk ((by rw [hg]; exact (below_size (by repeat (first | (with_reducible first | exact HB.out | apply below_alloc | apply pw_below_drewN | apply below_drew1 | refine below_set ?_ GE386.out) | exact HB.out))) : w.heap.size ≤ gb387)); have n4_ := Aside0.mk ((by rw [hg]; exact (below_size (by repeat (first | (with_reducible first | exact HB.out | apply below_alloc | apply pw_below_drewN | apply below_drew1 | refine below_set ?_ GE386.out) | exact HB.out))) : w.heap.size ≤ gb387)); have n5_ := Aside0.mk ((by rw [hg]; exact Nat.ne_of_lt (blk_lt (g := gb386) (o := .cells #[.int .i64 a0_0, .int .i64 a0_1, .slice A0_2 l0_2.length c0_2] 30 (0, 0)) (by (with_reducible repeat (first | refine blk_drewN ?_ _ | refine blk_drew ?_ | refine blk_alloc ?_ _)); exact BK386.out)) : gb386 ≠ gb387)); have n6_ := Aside0.mk ((by rw [hg]; exact Nat.ne_of_gt (blk_lt (g := gb386) (o := .cells #[.int .i64 a0_0, .int .i64 a0_1, .slice A0_2 l0_2.length c0_2] 30 (0, 0)) (by (with_reducible repeat (first | refine blk_drewN ?_ _ | refine blk_drew ?_ | refine blk_alloc ?_ _)); exact BK386.out)) : gb387 ≠ gb386)); clear BK386; clear HB; have BK386 := n0_; have HB := n1_; have BK387 := n2_; have GW387 := n3_; have GE387 := n4_; have NB386_387 := n5_; have NB387_386 := n6_; clear n0_ n1_ n2_ n3_ n4_ n5_ n6_; clear hb hbox hg) | ((with_reducible refine gate_dst (N := 5) rfl ?_); refine box_event ?hg (N := 5) ?hd (cs := #[.int .i64 0, .int .i64 0]) (t := 35) ?hr ?_; (case hd => rfl); (case hg => rfl); (case hr => first | (go_simp; done) | (go_simp; rfl)); intro gb388 hg w5 hbox hb; have n0_ := Aside0.mk (blk_below (g := gb386) (o := .cells #[.int .i64 a0_0, .int .i64 a0_1, .slice A0_2 l0_2.length c0_2] 30 (0, 0)) (by (with_reducible repeat (first | refine blk_drewN ?_ _ | refine blk_drew ?_ | refine blk_alloc ?_ _)); exact BK386.out) hb); have n1_ := Aside0.mk (blk_below (g := gb387) (o := .cells #[.int .i64 0, .int .i64 0] 35 (0, 0)) (by (with_reducible repeat (first | refine blk_drewN ?_ _ | refine blk_drew ?_ | refine blk_alloc ?_ _)); exact BK387.out) hb); have n2_ := Aside0.mk (below_step (by repeat (first | (with_reducible first | exact HB.out | apply below_alloc | apply pw_below_drewN | apply below_drew1 | refine below_set ?_ GE386.out | refine below_set ?_ GE387.out) | exact HB.out)) hb); have n3_ := Aside0.mk (hbox); have n4_ := Aside0.mk ((by rw [hg]; exact (below_size (by repeat (first | (with_reducible first | exact HB.out | apply below_alloc | apply pw_below_drewN | apply below_drew1 | refine below_set ?_ GE386.out | refine below_set ?_ GE387.out) | exact HB.out))) : w.heap.size ≤ gb388)); have n5_ := Aside0.mk ((by rw [hg]; exact (below_size (by repeat (first | (with_reducible first | exact HB.out | apply below_alloc | apply pw_below_drewN | apply below_drew1 | refine below_set ?_ GE386.out | refine below_set ?_ GE387.out) | exact HB.out))) : w.heap.size ≤ gb388)); have n6_ := Aside0.mk ((by rw [hg]; exact Nat.ne_of_lt (blk_lt (g := gb386) (o := .cells #[.int .i64 a0_0, .int .i64 a0_1, .slice A0_2 l0_2.length c0_2] 30 (0, 0)) (by (with_reducible repeat (first | refine blk_drewN ?_ _ | refine blk_drew ?_ | refine blk_alloc ?_ _)); exact BK386.out)) : gb386 ≠ gb388)); have n7_ := Aside0.mk ((by rw [hg]; exact Nat.ne_of_gt (blk_lt (g := gb386) (o := .cells #[.int .i64 a0_0, .int .i64 a0_1, .slice A0_2 l0_2.length c0_2] 30 (0, 0)) (by (with_reducible repeat (first | refine blk_drewN ?_ _ | refine blk_drew ?_ | refine blk_alloc ?_ _)); exact BK386.out)) : gb388 ≠ gb386)); have n8_ := Aside0.mk ((by rw [hg]; exact Nat.ne_of_lt (blk_lt (g := gb387) (o := .cells #[.int .i64 0, .int .i64 0] 35 (0, 0)) (by (with_reducible repeat (first | refine blk_drewN ?_ _ | refine blk_drew ?_ | refine blk_alloc ?_ _)); exact BK387.out)) : gb387 ≠ gb388)); have n9_ := Aside0.mk ((by rw [hg]; exact Nat.ne_of_gt (blk_lt (g := gb387) (o := .cells #[.int .i64 0, .int .i64 0] 35 (0, 0)) (by (with_reducible repeat (first | refine blk_drewN ?_ _ | refine blk_drew ?_ | refine blk_alloc ?_ _)); exact BK387.out)) : gb388 ≠ gb387)); clear BK386; clear BK387; clear HB; have BK386 := n0_; have BK387 := n1_; have HB := n2_; have BK388 := n3_; have GW388 := n4_; have GE388 := n5_; have NB386_388 := n6_; have NB388_386 := n7_; have NB387_388 := n8_; have NB388_387 := n9_; clear n0_ n1_ n2_ n3_ n4_ n5_ n6_ n7_ n8_ n9_; clear hb hbox hg; have hnb6 := NB388_386.out; have hnc6 := NB386_388.out; have hnb7 := NB388_387.out; have hnc7 := NB387_388.out; have hcz8_0 : w5.cell? ⟨gb388, 0, none⟩ = some (.int .i64 0) := (blk_cell BK388.out 0).trans rfl; have hcz8_1 : w5.cell? ⟨gb388, 1, none⟩ = some (.int .i64 0) := (blk_cell BK388.out 1).trans rfl; have hfz8_0 := blk_frozen BK388.out 0; have hfz8_1 := blk_frozen BK388.out 1))
  go_loopg [6] k (fun kq v6 w' => ∃ (x6_1 : Int) (x389000_1 : Int) (x389001_1 : Int), v6 = .int .i64 x6_1 ∧ Aside0 (isobathref05_at.l0 kq a1 x6_1 a0_0 a0_1 l0_2 x389000_1 x389001_1 = some (r1, r2)) ∧ Aside0 (kq ≤ k) ∧ Aside0 (w'.heap[gb386]? = some (.cells #[.int .i64 a0_0, .int .i64 a0_1, (.slice A0_2 l0_2.length c0_2)] 30 (0, 0))) ∧ Aside0 (w'.heap[gb387]? = some (.cells #[.int .i64 0, .int .i64 0] 35 (0, 0))) ∧ Aside0 (w'.heap[gb388]? = some (.cells #[.int .i64 x389000_1, .int .i64 x389001_1] 35 (0, 0))) ∧ Aside0 (Below w.heap.size w w'))
  case atStart => exact ⟨(0), ((-4611686018427387904)), (4611686018427387904), (by first | rfl | (simp; done) | (simp [*]; done)), H', ⟨Nat.le_refl _⟩, ⟨by (with_reducible repeat (first | refine blk_drewN ?_ _ | refine blk_drew ?_ | refine blk_alloc ?_ _)); refine blk_far ?_ NB386_388.out _; (with_reducible repeat (first | refine blk_drewN ?_ _ | refine blk_drew ?_ | refine blk_alloc ?_ _)); refine blk_far ?_ NB386_388.out _; (with_reducible repeat (first | refine blk_drewN ?_ _ | refine blk_drew ?_ | refine blk_alloc ?_ _)); exact BK386.out⟩, ⟨by (with_reducible repeat (first | refine blk_drewN ?_ _ | refine blk_drew ?_ | refine blk_alloc ?_ _)); refine blk_far ?_ NB387_388.out _; (with_reducible repeat (first | refine blk_drewN ?_ _ | refine blk_drew ?_ | refine blk_alloc ?_ _)); refine blk_far ?_ NB387_388.out _; (with_reducible repeat (first | refine blk_drewN ?_ _ | refine blk_drew ?_ | refine blk_alloc ?_ _)); exact BK387.out⟩, ⟨by (with_reducible repeat (first | refine blk_drewN ?_ _ | refine blk_drew ?_ | refine blk_alloc ?_ _)); refine blk_put (cs := #[.int .i64 (-4611686018427387904), .int .i64 0]) ?_ 1 _ rfl; (with_reducible repeat (first | refine blk_drewN ?_ _ | refine blk_drew ?_ | refine blk_alloc ?_ _)); refine blk_put (cs := #[.int .i64 0, .int .i64 0]) ?_ 0 _ rfl; (with_reducible repeat (first | refine blk_drewN ?_ _ | refine blk_drew ?_ | refine blk_alloc ?_ _)); exact BK388.out⟩, ⟨by repeat (first | (with_reducible first | exact HB.out | apply below_alloc | apply pw_below_drewN | apply below_drew1 | refine below_set ?_ GE386.out | refine below_set ?_ GE387.out | refine below_set ?_ GE388.out) | exact HB.out)⟩⟩
  case round =>
    clear H'
    try clear p2
    try clear c6
    try clear c7
    try clear hcz8_0
    try clear hcz8_1
    try clear hfz8_0
    try clear hfz8_1
    obtain ⟨x6_1, x389000_1, x389001_1, rfl, HA, HK1, BK386, BK387, BK388, HB⟩ := hrel
    cases gk with
    | zero => exact absurd HA.out (by simp [isobathref05_at.l0])
    | succ k1 =>
      have H := HA.out
      clear HA
      simp only [isobathref05_at.l0] at H
      by_cases c9 : x6_1 < (l0_2.length : Int)
      · rw [if_pos c9] at H
        have c9b0 : decide (x6_1 < (l0_2.length : Int)) = true := decide_eq_true c9
        clear c9
        by_cases c10 : 0 ≤ x6_1
        · rw [if_pos c10] at H
          have c10b0 : decide (0 ≤ x6_1) = true := decide_eq_true c10
          clear c10
          replace H := Option.bind_eq_some_iff.mp H
          obtain ⟨⟨t391, t392⟩, A110, H⟩ := H
          replace H : ((isobathref05_Growth.f k1 a0_1 (wrap64 (a1 - ((rd_T46 l0_2 x6_1).f3)))).bind fun t393 => ((isobathref05_grown.f t391 t392 t393).bind fun bt394 => ((isobathref05_meet.f x389000_1 x389001_1 bt394.1 bt394.2).bind fun bt396 => (isobathref05_at.l0 k1 a1 (wrap64 (x6_1 + 1)) a0_0 a0_1 l0_2 bt396.1 bt396.2)))) = some (r1, r2) := H
          have A11 := Aside0.mk A110
          clear A110
          replace H := Option.bind_eq_some_iff.mp H
          obtain ⟨t393, A120, H⟩ := H
          replace H : ((isobathref05_grown.f t391 t392 t393).bind fun bt394 => ((isobathref05_meet.f x389000_1 x389001_1 bt394.1 bt394.2).bind fun bt396 => (isobathref05_at.l0 k1 a1 (wrap64 (x6_1 + 1)) a0_0 a0_1 l0_2 bt396.1 bt396.2))) = some (r1, r2) := H
          have A12 := Aside0.mk A120
          clear A120
          replace H := Option.bind_eq_some_iff.mp H
          obtain ⟨⟨t394, t395⟩, A130, H⟩ := H
          replace H : ((isobathref05_meet.f x389000_1 x389001_1 t394 t395).bind fun bt396 => (isobathref05_at.l0 k1 a1 (wrap64 (x6_1 + 1)) a0_0 a0_1 l0_2 bt396.1 bt396.2)) = some (r1, r2) := H
          have A13 := Aside0.mk A130
          clear A130
          replace H := Option.bind_eq_some_iff.mp H
          obtain ⟨⟨t396, t397⟩, A140, H⟩ := H
          replace H : (isobathref05_at.l0 k1 a1 (wrap64 (x6_1 + 1)) a0_0 a0_1 l0_2 t396 t397) = some (r1, r2) := H
          have A14 := Aside0.mk A140
          clear A140
          have H' := Aside0.mk H
          clear H
          have hnb15 := NB386_387.out
          have hnc15 := NB387_386.out
          have hnb16 := NB386_388.out
          have hnc16 := NB388_386.out
          have hcz17_0 : wr.cell? ⟨gb386, 0, none⟩ = some (.int .i64 a0_0) := (blk_cell BK386.out 0).trans rfl
          have hcz17_1 : wr.cell? ⟨gb386, 1, none⟩ = some (.int .i64 a0_1) := (blk_cell BK386.out 1).trans rfl
          have hcz17_2 : wr.cell? ⟨gb386, 2, none⟩ = some (.slice A0_2 l0_2.length c0_2) := (blk_cell BK386.out 2).trans rfl
          have hfz17_0 := blk_frozen BK386.out 0
          have hfz17_1 := blk_frozen BK386.out 1
          have hfz17_2 := blk_frozen BK386.out 2
          have p389 : 0 ≤ (x6_1 : Int) := of_decide_eq_true (by first | (with_reducible assumption) | assumption)
          have q389 : x6_1 < (l0_2.length : Int) := of_decide_eq_true (by first | (with_reducible assumption) | assumption)
          obtain ⟨ad389, e389, hx389_0, hx389_1, hx389_2, hx389_3, hx389_4, hx389_5, hx389_6, hx389_7⟩ := at_T46 HR0_2.out x6_1 p389 q389
          cases e389
          replace hx389_0 := (HB.out.cell (World.block_lt_of_cell? w _ hx389_0)).trans hx389_0
          replace hx389_1 := (HB.out.cell (World.block_lt_of_cell? w _ hx389_1)).trans hx389_1
          replace hx389_2 := (HB.out.cell (World.block_lt_of_cell? w _ hx389_2)).trans hx389_2
          replace hx389_3 := (HB.out.cell (World.block_lt_of_cell? w _ hx389_3)).trans hx389_3
          replace hx389_4 := (HB.out.cell (World.block_lt_of_cell? w _ hx389_4)).trans hx389_4
          replace hx389_5 := (HB.out.cell (World.block_lt_of_cell? w _ hx389_5)).trans hx389_5
          replace hx389_6 := (HB.out.cell (World.block_lt_of_cell? w _ hx389_6)).trans hx389_6
          replace hx389_7 := (HB.out.cell (World.block_lt_of_cell? w _ hx389_7)).trans hx389_7
          replace p389 := eq_true p389
          replace q389 := eq_true q389
          try go_wp2_with (first | ((with_reducible refine gate_dst (N := 7) rfl ?_); refine box_event ?hg (N := 7) ?hd (cs := #[.int .i64 0, .int .i64 0, .int .i64 0, .int .i64 0, .int .i64 0, .int .i64 0, .int .i64 0, .int .i64 0]) (t := 46) ?hr ?_; (case hd => rfl); (case hg => rfl); (case hr => first | (go_simp; done) | (go_simp; rfl)); intro gb390 hg w18 hbox hb; have n0_ := Aside0.mk (blk_below (g := gb386) (o := .cells #[.int .i64 a0_0, .int .i64 a0_1, .slice (some ad389) l0_2.length c0_2] 30 (0, 0)) (by (with_reducible repeat (first | refine blk_drewN ?_ _ | refine blk_drew ?_ | refine blk_alloc ?_ _)); exact BK386.out) hb); have n1_ := Aside0.mk (blk_below (g := gb387) (o := .cells #[.int .i64 0, .int .i64 0] 35 (0, 0)) (by (with_reducible repeat (first | refine blk_drewN ?_ _ | refine blk_drew ?_ | refine blk_alloc ?_ _)); exact BK387.out) hb); have n2_ := Aside0.mk (blk_below (g := gb388) (o := .cells #[.int .i64 x389000_1, .int .i64 x389001_1] 35 (0, 0)) (by (with_reducible repeat (first | refine blk_drewN ?_ _ | refine blk_drew ?_ | refine blk_alloc ?_ _)); exact BK388.out) hb); have n3_ := Aside0.mk (below_step (by repeat (first | (with_reducible first | exact HB.out | apply below_alloc | apply pw_below_drewN | apply below_drew1 | refine below_set ?_ GE386.out | refine below_set ?_ GE387.out | refine below_set ?_ GE388.out) | exact HB.out)) hb); have n4_ := Aside0.mk (hbox); have n5_ := Aside0.mk ((by rw [hg]; exact (below_size (by repeat (first | (with_reducible first | exact HB.out | apply below_alloc | apply pw_below_drewN | apply below_drew1 | refine below_set ?_ GE386.out | refine below_set ?_ GE387.out | refine below_set ?_ GE388.out) | exact HB.out))) : w.heap.size ≤ gb390)); have n6_ := Aside0.mk ((by rw [hg]; exact (below_size (by repeat (first | (with_reducible first | exact HB.out | apply below_alloc | apply pw_below_drewN | apply below_drew1 | refine below_set ?_ GE386.out | refine below_set ?_ GE387.out | refine below_set ?_ GE388.out) | exact HB.out))) : w.heap.size ≤ gb390)); have n7_ := Aside0.mk ((by rw [hg]; exact Nat.ne_of_lt (blk_lt (g := gb386) (o := .cells #[.int .i64 a0_0, .int .i64 a0_1, .slice (some ad389) l0_2.length c0_2] 30 (0, 0)) (by (with_reducible repeat (first | refine blk_drewN ?_ _ | refine blk_drew ?_ | refine blk_alloc ?_ _)); exact BK386.out)) : gb386 ≠ gb390)); have n8_ := Aside0.mk ((by rw [hg]; exact Nat.ne_of_gt (blk_lt (g := gb386) (o := .cells #[.int .i64 a0_0, .int .i64 a0_1, .slice (some ad389) l0_2.length c0_2] 30 (0, 0)) (by (with_reducible repeat (first | refine blk_drewN ?_ _ | refine blk_drew ?_ | refine blk_alloc ?_ _)); exact BK386.out)) : gb390 ≠ gb386)); have n9_ := Aside0.mk ((by rw [hg]; exact Nat.ne_of_lt (blk_lt (g := gb387) (o := .cells #[.int .i64 0, .int .i64 0] 35 (0, 0)) (by (with_reducible repeat (first | refine blk_drewN ?_ _ | refine blk_drew ?_ | refine blk_alloc ?_ _)); exact BK387.out)) : gb387 ≠ gb390)); have n10_ := Aside0.mk ((by rw [hg]; exact Nat.ne_of_gt (blk_lt (g := gb387) (o := .cells #[.int .i64 0, .int .i64 0] 35 (0, 0)) (by (with_reducible repeat (first | refine blk_drewN ?_ _ | refine blk_drew ?_ | refine blk_alloc ?_ _)); exact BK387.out)) : gb390 ≠ gb387)); have n11_ := Aside0.mk ((by rw [hg]; exact Nat.ne_of_lt (blk_lt (g := gb388) (o := .cells #[.int .i64 x389000_1, .int .i64 x389001_1] 35 (0, 0)) (by (with_reducible repeat (first | refine blk_drewN ?_ _ | refine blk_drew ?_ | refine blk_alloc ?_ _)); exact BK388.out)) : gb388 ≠ gb390)); have n12_ := Aside0.mk ((by rw [hg]; exact Nat.ne_of_gt (blk_lt (g := gb388) (o := .cells #[.int .i64 x389000_1, .int .i64 x389001_1] 35 (0, 0)) (by (with_reducible repeat (first | refine blk_drewN ?_ _ | refine blk_drew ?_ | refine blk_alloc ?_ _)); exact BK388.out)) : gb390 ≠ gb388)); clear BK386; clear BK387; clear BK388; clear HB; have BK386 := n0_; have BK387 := n1_; have BK388 := n2_; have HB := n3_; have BK390 := n4_; have GW390 := n5_; have GE390 := n6_; have NB386_390 := n7_; have NB390_386 := n8_; have NB387_390 := n9_; have NB390_387 := n10_; have NB388_390 := n11_; have NB390_388 := n12_; clear n0_ n1_ n2_ n3_ n4_ n5_ n6_ n7_ n8_ n9_ n10_ n11_ n12_; clear hb hbox hg; have hnb19 := NB390_386.out; have hnc19 := NB386_390.out; have hnb20 := NB390_387.out; have hnc20 := NB387_390.out; have hnb21 := NB390_388.out; have hnc21 := NB388_390.out; have hcz22_0 : w18.cell? ⟨gb390, 0, none⟩ = some (.int .i64 0) := (blk_cell BK390.out 0).trans rfl; have hcz22_1 : w18.cell? ⟨gb390, 1, none⟩ = some (.int .i64 0) := (blk_cell BK390.out 1).trans rfl; have hcz22_2 : w18.cell? ⟨gb390, 2, none⟩ = some (.int .i64 0) := (blk_cell BK390.out 2).trans rfl; have hcz22_3 : w18.cell? ⟨gb390, 3, none⟩ = some (.int .i64 0) := (blk_cell BK390.out 3).trans rfl; have hcz22_4 : w18.cell? ⟨gb390, 4, none⟩ = some (.int .i64 0) := (blk_cell BK390.out 4).trans rfl; have hcz22_5 : w18.cell? ⟨gb390, 5, none⟩ = some (.int .i64 0) := (blk_cell BK390.out 5).trans rfl; have hcz22_6 : w18.cell? ⟨gb390, 6, none⟩ = some (.int .i64 0) := (blk_cell BK390.out 6).trans rfl; have hcz22_7 : w18.cell? ⟨gb390, 7, none⟩ = some (.int .i64 0) := (blk_cell BK390.out 7).trans rfl; have hfz22_0 := blk_frozen BK390.out 0; have hfz22_1 := blk_frozen BK390.out 1; have hfz22_2 := blk_frozen BK390.out 2; have hfz22_3 := blk_frozen BK390.out 3; have hfz22_4 := blk_frozen BK390.out 4; have hfz22_5 := blk_frozen BK390.out 5; have hfz22_6 := blk_frozen BK390.out 6; have hfz22_7 := blk_frozen BK390.out 7))
          have n0_ : Aside0 (((((((((w18.setCell ⟨gb390, 0, none⟩ (.int .i64 ((rd_T46 l0_2 x6_1).f0))).setCell ⟨gb390, 1, none⟩ (.int .i64 ((rd_T46 l0_2 x6_1).f1))).setCell ⟨gb390, 2, none⟩ (.int .i64 ((rd_T46 l0_2 x6_1).f2))).setCell ⟨gb390, 3, none⟩ (.int .i64 ((rd_T46 l0_2 x6_1).f3))).setCell ⟨gb390, 4, none⟩ (.int .i64 ((rd_T46 l0_2 x6_1).f4.f0))).setCell ⟨gb390, 5, none⟩ (.int .i64 ((rd_T46 l0_2 x6_1).f4.f1))).setCell ⟨gb390, 6, none⟩ (.int .i64 ((rd_T46 l0_2 x6_1).f5.f0))).setCell ⟨gb390, 7, none⟩ (.int .i64 ((rd_T46 l0_2 x6_1).f5.f1))).heap[gb386]? = some (.cells #[.int .i64 a0_0, .int .i64 a0_1, .slice (some ad389) l0_2.length c0_2] 30 (0, 0))) := ⟨by (with_reducible repeat (first | refine blk_drewN ?_ _ | refine blk_drew ?_ | refine blk_alloc ?_ _)); refine blk_far ?_ NB386_390.out _; (with_reducible repeat (first | refine blk_drewN ?_ _ | refine blk_drew ?_ | refine blk_alloc ?_ _)); refine blk_far ?_ NB386_390.out _; (with_reducible repeat (first | refine blk_drewN ?_ _ | refine blk_drew ?_ | refine blk_alloc ?_ _)); refine blk_far ?_ NB386_390.out _; (with_reducible repeat (first | refine blk_drewN ?_ _ | refine blk_drew ?_ | refine blk_alloc ?_ _)); refine blk_far ?_ NB386_390.out _; (with_reducible repeat (first | refine blk_drewN ?_ _ | refine blk_drew ?_ | refine blk_alloc ?_ _)); refine blk_far ?_ NB386_390.out _; (with_reducible repeat (first | refine blk_drewN ?_ _ | refine blk_drew ?_ | refine blk_alloc ?_ _)); refine blk_far ?_ NB386_390.out _; (with_reducible repeat (first | refine blk_drewN ?_ _ | refine blk_drew ?_ | refine blk_alloc ?_ _)); refine blk_far ?_ NB386_390.out _; (with_reducible repeat (first | refine blk_drewN ?_ _ | refine blk_drew ?_ | refine blk_alloc ?_ _)); refine blk_far ?_ NB386_390.out _; (with_reducible repeat (first | refine blk_drewN ?_ _ | refine blk_drew ?_ | refine blk_alloc ?_ _)); exact BK386.out⟩
          have n1_ : Aside0 (((((((((w18.setCell ⟨gb390, 0, none⟩ (.int .i64 ((rd_T46 l0_2 x6_1).f0))).setCell ⟨gb390, 1, none⟩ (.int .i64 ((rd_T46 l0_2 x6_1).f1))).setCell ⟨gb390, 2, none⟩ (.int .i64 ((rd_T46 l0_2 x6_1).f2))).setCell ⟨gb390, 3, none⟩ (.int .i64 ((rd_T46 l0_2 x6_1).f3))).setCell ⟨gb390, 4, none⟩ (.int .i64 ((rd_T46 l0_2 x6_1).f4.f0))).setCell ⟨gb390, 5, none⟩ (.int .i64 ((rd_T46 l0_2 x6_1).f4.f1))).setCell ⟨gb390, 6, none⟩ (.int .i64 ((rd_T46 l0_2 x6_1).f5.f0))).setCell ⟨gb390, 7, none⟩ (.int .i64 ((rd_T46 l0_2 x6_1).f5.f1))).heap[gb387]? = some (.cells #[.int .i64 0, .int .i64 0] 35 (0, 0))) := ⟨by (with_reducible repeat (first | refine blk_drewN ?_ _ | refine blk_drew ?_ | refine blk_alloc ?_ _)); refine blk_far ?_ NB387_390.out _; (with_reducible repeat (first | refine blk_drewN ?_ _ | refine blk_drew ?_ | refine blk_alloc ?_ _)); refine blk_far ?_ NB387_390.out _; (with_reducible repeat (first | refine blk_drewN ?_ _ | refine blk_drew ?_ | refine blk_alloc ?_ _)); refine blk_far ?_ NB387_390.out _; (with_reducible repeat (first | refine blk_drewN ?_ _ | refine blk_drew ?_ | refine blk_alloc ?_ _)); refine blk_far ?_ NB387_390.out _; (with_reducible repeat (first | refine blk_drewN ?_ _ | refine blk_drew ?_ | refine blk_alloc ?_ _)); refine blk_far ?_ NB387_390.out _; (with_reducible repeat (first | refine blk_drewN ?_ _ | refine blk_drew ?_ | refine blk_alloc ?_ _)); refine blk_far ?_ NB387_390.out _; (with_reducible repeat (first | refine blk_drewN ?_ _ | refine blk_drew ?_ | refine blk_alloc ?_ _)); refine blk_far ?_ NB387_390.out _; (with_reducible repeat (first | refine blk_drewN ?_ _ | refine blk_drew ?_ | refine blk_alloc ?_ _)); refine blk_far ?_ NB387_390.out _; (with_reducible repeat (first | refine blk_drewN ?_ _ | refine blk_drew ?_ | refine blk_alloc ?_ _)); exact BK387.out⟩
          have n2_ : Aside0 (((((((((w18.setCell ⟨gb390, 0, none⟩ (.int .i64 ((rd_T46 l0_2 x6_1).f0))).setCell ⟨gb390, 1, none⟩ (.int .i64 ((rd_T46 l0_2 x6_1).f1))).setCell ⟨gb390, 2, none⟩ (.int .i64 ((rd_T46 l0_2 x6_1).f2))).setCell ⟨gb390, 3, none⟩ (.int .i64 ((rd_T46 l0_2 x6_1).f3))).setCell ⟨gb390, 4, none⟩ (.int .i64 ((rd_T46 l0_2 x6_1).f4.f0))).setCell ⟨gb390, 5, none⟩ (.int .i64 ((rd_T46 l0_2 x6_1).f4.f1))).setCell ⟨gb390, 6, none⟩ (.int .i64 ((rd_T46 l0_2 x6_1).f5.f0))).setCell ⟨gb390, 7, none⟩ (.int .i64 ((rd_T46 l0_2 x6_1).f5.f1))).heap[gb388]? = some (.cells #[.int .i64 x389000_1, .int .i64 x389001_1] 35 (0, 0))) := ⟨by (with_reducible repeat (first | refine blk_drewN ?_ _ | refine blk_drew ?_ | refine blk_alloc ?_ _)); refine blk_far ?_ NB388_390.out _; (with_reducible repeat (first | refine blk_drewN ?_ _ | refine blk_drew ?_ | refine blk_alloc ?_ _)); refine blk_far ?_ NB388_390.out _; (with_reducible repeat (first | refine blk_drewN ?_ _ | refine blk_drew ?_ | refine blk_alloc ?_ _)); refine blk_far ?_ NB388_390.out _; (with_reducible repeat (first | refine blk_drewN ?_ _ | refine blk_drew ?_ | refine blk_alloc ?_ _)); refine blk_far ?_ NB388_390.out _; (with_reducible repeat (first | refine blk_drewN ?_ _ | refine blk_drew ?_ | refine blk_alloc ?_ _)); refine blk_far ?_ NB388_390.out _; (with_reducible repeat (first | refine blk_drewN ?_ _ | refine blk_drew ?_ | refine blk_alloc ?_ _)); refine blk_far ?_ NB388_390.out _; (with_reducible repeat (first | refine blk_drewN ?_ _ | refine blk_drew ?_ | refine blk_alloc ?_ _)); refine blk_far ?_ NB388_390.out _; (with_reducible repeat (first | refine blk_drewN ?_ _ | refine blk_drew ?_ | refine blk_alloc ?_ _)); refine blk_far ?_ NB388_390.out _; (with_reducible repeat (first | refine blk_drewN ?_ _ | refine blk_drew ?_ | refine blk_alloc ?_ _)); exact BK388.out⟩
          have n3_ : Aside0 (((((((((w18.setCell ⟨gb390, 0, none⟩ (.int .i64 ((rd_T46 l0_2 x6_1).f0))).setCell ⟨gb390, 1, none⟩ (.int .i64 ((rd_T46 l0_2 x6_1).f1))).setCell ⟨gb390, 2, none⟩ (.int .i64 ((rd_T46 l0_2 x6_1).f2))).setCell ⟨gb390, 3, none⟩ (.int .i64 ((rd_T46 l0_2 x6_1).f3))).setCell ⟨gb390, 4, none⟩ (.int .i64 ((rd_T46 l0_2 x6_1).f4.f0))).setCell ⟨gb390, 5, none⟩ (.int .i64 ((rd_T46 l0_2 x6_1).f4.f1))).setCell ⟨gb390, 6, none⟩ (.int .i64 ((rd_T46 l0_2 x6_1).f5.f0))).setCell ⟨gb390, 7, none⟩ (.int .i64 ((rd_T46 l0_2 x6_1).f5.f1))).heap[gb390]? = some (.cells #[.int .i64 ((rd_T46 l0_2 x6_1).f0), .int .i64 ((rd_T46 l0_2 x6_1).f1), .int .i64 ((rd_T46 l0_2 x6_1).f2), .int .i64 ((rd_T46 l0_2 x6_1).f3), .int .i64 ((rd_T46 l0_2 x6_1).f4.f0), .int .i64 ((rd_T46 l0_2 x6_1).f4.f1), .int .i64 ((rd_T46 l0_2 x6_1).f5.f0), .int .i64 ((rd_T46 l0_2 x6_1).f5.f1)] 46 (0, 0))) := ⟨by (with_reducible repeat (first | refine blk_drewN ?_ _ | refine blk_drew ?_ | refine blk_alloc ?_ _)); refine blk_put (cs := #[.int .i64 ((rd_T46 l0_2 x6_1).f0), .int .i64 ((rd_T46 l0_2 x6_1).f1), .int .i64 ((rd_T46 l0_2 x6_1).f2), .int .i64 ((rd_T46 l0_2 x6_1).f3), .int .i64 ((rd_T46 l0_2 x6_1).f4.f0), .int .i64 ((rd_T46 l0_2 x6_1).f4.f1), .int .i64 ((rd_T46 l0_2 x6_1).f5.f0), .int .i64 0]) ?_ 7 _ rfl; (with_reducible repeat (first | refine blk_drewN ?_ _ | refine blk_drew ?_ | refine blk_alloc ?_ _)); refine blk_put (cs := #[.int .i64 ((rd_T46 l0_2 x6_1).f0), .int .i64 ((rd_T46 l0_2 x6_1).f1), .int .i64 ((rd_T46 l0_2 x6_1).f2), .int .i64 ((rd_T46 l0_2 x6_1).f3), .int .i64 ((rd_T46 l0_2 x6_1).f4.f0), .int .i64 ((rd_T46 l0_2 x6_1).f4.f1), .int .i64 0, .int .i64 0]) ?_ 6 _ rfl; (with_reducible repeat (first | refine blk_drewN ?_ _ | refine blk_drew ?_ | refine blk_alloc ?_ _)); refine blk_put (cs := #[.int .i64 ((rd_T46 l0_2 x6_1).f0), .int .i64 ((rd_T46 l0_2 x6_1).f1), .int .i64 ((rd_T46 l0_2 x6_1).f2), .int .i64 ((rd_T46 l0_2 x6_1).f3), .int .i64 ((rd_T46 l0_2 x6_1).f4.f0), .int .i64 0, .int .i64 0, .int .i64 0]) ?_ 5 _ rfl; (with_reducible repeat (first | refine blk_drewN ?_ _ | refine blk_drew ?_ | refine blk_alloc ?_ _)); refine blk_put (cs := #[.int .i64 ((rd_T46 l0_2 x6_1).f0), .int .i64 ((rd_T46 l0_2 x6_1).f1), .int .i64 ((rd_T46 l0_2 x6_1).f2), .int .i64 ((rd_T46 l0_2 x6_1).f3), .int .i64 0, .int .i64 0, .int .i64 0, .int .i64 0]) ?_ 4 _ rfl; (with_reducible repeat (first | refine blk_drewN ?_ _ | refine blk_drew ?_ | refine blk_alloc ?_ _)); refine blk_put (cs := #[.int .i64 ((rd_T46 l0_2 x6_1).f0), .int .i64 ((rd_T46 l0_2 x6_1).f1), .int .i64 ((rd_T46 l0_2 x6_1).f2), .int .i64 0, .int .i64 0, .int .i64 0, .int .i64 0, .int .i64 0]) ?_ 3 _ rfl; (with_reducible repeat (first | refine blk_drewN ?_ _ | refine blk_drew ?_ | refine blk_alloc ?_ _)); refine blk_put (cs := #[.int .i64 ((rd_T46 l0_2 x6_1).f0), .int .i64 ((rd_T46 l0_2 x6_1).f1), .int .i64 0, .int .i64 0, .int .i64 0, .int .i64 0, .int .i64 0, .int .i64 0]) ?_ 2 _ rfl; (with_reducible repeat (first | refine blk_drewN ?_ _ | refine blk_drew ?_ | refine blk_alloc ?_ _)); refine blk_put (cs := #[.int .i64 ((rd_T46 l0_2 x6_1).f0), .int .i64 0, .int .i64 0, .int .i64 0, .int .i64 0, .int .i64 0, .int .i64 0, .int .i64 0]) ?_ 1 _ rfl; (with_reducible repeat (first | refine blk_drewN ?_ _ | refine blk_drew ?_ | refine blk_alloc ?_ _)); refine blk_put (cs := #[.int .i64 0, .int .i64 0, .int .i64 0, .int .i64 0, .int .i64 0, .int .i64 0, .int .i64 0, .int .i64 0]) ?_ 0 _ rfl; (with_reducible repeat (first | refine blk_drewN ?_ _ | refine blk_drew ?_ | refine blk_alloc ?_ _)); exact BK390.out⟩
          have n4_ : Aside0 (Below w.heap.size w ((((((((w18.setCell ⟨gb390, 0, none⟩ (.int .i64 ((rd_T46 l0_2 x6_1).f0))).setCell ⟨gb390, 1, none⟩ (.int .i64 ((rd_T46 l0_2 x6_1).f1))).setCell ⟨gb390, 2, none⟩ (.int .i64 ((rd_T46 l0_2 x6_1).f2))).setCell ⟨gb390, 3, none⟩ (.int .i64 ((rd_T46 l0_2 x6_1).f3))).setCell ⟨gb390, 4, none⟩ (.int .i64 ((rd_T46 l0_2 x6_1).f4.f0))).setCell ⟨gb390, 5, none⟩ (.int .i64 ((rd_T46 l0_2 x6_1).f4.f1))).setCell ⟨gb390, 6, none⟩ (.int .i64 ((rd_T46 l0_2 x6_1).f5.f0))).setCell ⟨gb390, 7, none⟩ (.int .i64 ((rd_T46 l0_2 x6_1).f5.f1)))) := ⟨by repeat (first | (with_reducible first | exact HB.out | apply below_alloc | apply pw_below_drewN | apply below_drew1 | refine below_set ?_ GE386.out | refine below_set ?_ GE387.out | refine below_set ?_ GE388.out | refine below_set ?_ GE390.out) | exact HB.out)⟩
          (try clear BK386)
          (try clear BK387)
          (try clear BK388)
          (try clear BK390)
          (try clear HB)
          generalize ((((((((w18.setCell ⟨gb390, 0, none⟩ (.int .i64 ((rd_T46 l0_2 x6_1).f0))).setCell ⟨gb390, 1, none⟩ (.int .i64 ((rd_T46 l0_2 x6_1).f1))).setCell ⟨gb390, 2, none⟩ (.int .i64 ((rd_T46 l0_2 x6_1).f2))).setCell ⟨gb390, 3, none⟩ (.int .i64 ((rd_T46 l0_2 x6_1).f3))).setCell ⟨gb390, 4, none⟩ (.int .i64 ((rd_T46 l0_2 x6_1).f4.f0))).setCell ⟨gb390, 5, none⟩ (.int .i64 ((rd_T46 l0_2 x6_1).f4.f1))).setCell ⟨gb390, 6, none⟩ (.int .i64 ((rd_T46 l0_2 x6_1).f5.f0))).setCell ⟨gb390, 7, none⟩ (.int .i64 ((rd_T46 l0_2 x6_1).f5.f1))) = w23 at n0_ n1_ n2_ n3_ n4_ ⊢
          have BK386 := n0_
          have BK387 := n1_
          have BK388 := n2_
          have BK390 := n3_
          have HB := n4_
          clear n0_ n1_ n2_ n3_ n4_
          have n0_ := Aside0.mk (blk_drew BK386.out)
          have n1_ := Aside0.mk (blk_drew BK387.out)
          have n2_ := Aside0.mk (blk_drew BK388.out)
          have n3_ := Aside0.mk (blk_drew BK390.out)
          have n4_ := Aside0.mk (below_drew1 HB.out)
          clear BK386
          clear BK387
          clear BK388
          clear BK390
          clear HB
          have BK386 := n0_
          have BK387 := n1_
          have BK388 := n2_
          have BK390 := n3_
          have HB := n4_
          clear n0_ n1_ n2_ n3_ n4_
          refine start_ (n := 15) (S := fun w' => w'.cell? ⟨gb388, 0, none⟩ = some (.int .i64 x389000_1) ∧ w'.cell? ⟨gb388, 1, none⟩ = some (.int .i64 x389001_1) ∧ w'.cell? ⟨gb390, 0, none⟩ = some (.int .i64 ((rd_T46 l0_2 x6_1).f0)) ∧ w'.cell? ⟨gb390, 1, none⟩ = some (.int .i64 ((rd_T46 l0_2 x6_1).f1)) ∧ w'.cell? ⟨gb390, 2, none⟩ = some (.int .i64 ((rd_T46 l0_2 x6_1).f2)) ∧ w'.cell? ⟨gb390, 3, none⟩ = some (.int .i64 ((rd_T46 l0_2 x6_1).f3)) ∧ w'.cell? ⟨gb390, 4, none⟩ = some (.int .i64 ((rd_T46 l0_2 x6_1).f4.f0)) ∧ w'.cell? ⟨gb390, 5, none⟩ = some (.int .i64 ((rd_T46 l0_2 x6_1).f4.f1)) ∧ w'.cell? ⟨gb390, 6, none⟩ = some (.int .i64 ((rd_T46 l0_2 x6_1).f5.f0)) ∧ w'.cell? ⟨gb390, 7, none⟩ = some (.int .i64 ((rd_T46 l0_2 x6_1).f5.f1)) ∧ w'.cell? ⟨gb386, 0, none⟩ = some (.int .i64 a0_0) ∧ w'.cell? ⟨gb386, 1, none⟩ = some (.int .i64 a0_1) ∧ w'.cell? ⟨gb386, 2, none⟩ = some (.slice (some ad389) l0_2.length c0_2)) (ds := [14]) #[false, false, false, false, false, false, false, false, false, false, false, false, false, false, false] (by kernel_rfl) rfl rfl ⟨(blk_cell BK388.out 0).trans rfl, (blk_cell BK388.out 1).trans rfl, (blk_cell BK390.out 0).trans rfl, (blk_cell BK390.out 1).trans rfl, (blk_cell BK390.out 2).trans rfl, (blk_cell BK390.out 3).trans rfl, (blk_cell BK390.out 4).trans rfl, (blk_cell BK390.out 5).trans rfl, (blk_cell BK390.out 6).trans rfl, (blk_cell BK390.out 7).trans rfl, (blk_cell BK386.out 0).trans rfl, (blk_cell BK386.out 1).trans rfl, (blk_cell BK386.out 2).trans rfl⟩ (fun hHeld => ?_); refine with_tabW isobathref05_at.tab6 isobathref05_at.bits6 (fun HT_ HW_ => ?_)
          generalize w23.drew = w24 at BK386 BK387 BK388 BK390 HB hHeld ⊢
          refine pure_ (i := 2) (N := some 23) (v := ?_) (a' := ?_) #[false, false, true, false, false, false, false, false, false, false, false, false, false, false, false] rfl rfl (any_of HT_.out (by kernel_rfl)) (fun _ _ _ h => h) (Or.inl ⟨by rfl, ?_⟩) ?_ ?_
          rotate_left
          · intro w'
            go_simp
            with_reducible rfl
          rotate_left
          · simp only [Act.put, List.setIfInBounds_toArray, List.set_cons_zero, List.set_cons_succ, i64_w, i32_w]
            rfl
          refine pure_ (i := 5) (N := some 26) (v := ?_) (a' := ?_) #[false, false, true, false, false, true, false, false, false, false, false, false, false, false, false] rfl rfl (any_of HT_.out (by kernel_rfl)) (fun _ _ _ h => h) (Or.inl ⟨by rfl, ?_⟩) ?_ ?_
          rotate_left
          · intro w'
            go_simp
            with_reducible rfl
          rotate_left
          · simp only [Act.put, List.setIfInBounds_toArray, List.set_cons_zero, List.set_cons_succ, i64_w, i32_w]
            rfl
          refine pure_ (i := 7) (N := some 28) (v := ?_) (a' := ?_) #[false, false, true, false, false, true, false, true, false, false, false, false, false, false, false] rfl rfl (any_of HT_.out (by kernel_rfl)) (fun _ _ _ h => h) (Or.inl ⟨by rfl, ?_⟩) ?_ ?_
          rotate_left
          · intro w'
            go_simp
            with_reducible rfl
          rotate_left
          · simp only [Act.put, List.setIfInBounds_toArray, List.set_cons_zero, List.set_cons_succ, i64_w, i32_w]
            rfl
          refine pure_ (i := 8) (N := some 29) (v := ?_) (a' := ?_) #[false, false, true, false, false, true, false, true, true, false, false, false, false, false, false] rfl rfl (any_of HT_.out (by kernel_rfl)) (fun _ _ _ h => h) (Or.inl ⟨by rfl, ?_⟩) ?_ ?_
          rotate_left
          · intro w'
            go_simp
            with_reducible rfl
          rotate_left
          · simp only [Act.put, List.setIfInBounds_toArray, List.set_cons_zero, List.set_cons_succ, i64_w, i32_w]
            rfl
          refine take_ (i := 0) (N := some 21) (v := ?_) (a' := ?_) #[true, false, true, false, false, true, false, true, true, false, false, false, false, false, false] rfl rfl (take_ofW HT_.out HW_.out (by kernel_rfl)) (fun _ _ _ h => h) (Or.inl ⟨by rfl, ?_⟩) hHeld ?_ ?_
          rotate_left
          · rintro w' ⟨s0, s1, s2, s3, s4, s5, s6, s7, s8, s9, s10, s11, s12⟩
            go_simp
            with_reducible rfl
          rotate_left
          · simp only [Act.put, List.setIfInBounds_toArray, List.set_cons_zero, List.set_cons_succ, i64_w, i32_w]
            rfl
          refine take_ (i := 1) (N := some 22) (v := ?_) (a' := ?_) #[true, true, true, false, false, true, false, true, true, false, false, false, false, false, false] rfl rfl (take_ofW HT_.out HW_.out (by kernel_rfl)) (fun _ _ _ h => h) (Or.inl ⟨by rfl, ?_⟩) hHeld ?_ ?_
          rotate_left
          · rintro w' ⟨s0, s1, s2, s3, s4, s5, s6, s7, s8, s9, s10, s11, s12⟩
            go_simp
            with_reducible rfl
          rotate_left
          · simp only [Act.put, List.setIfInBounds_toArray, List.set_cons_zero, List.set_cons_succ, i64_w, i32_w]
            rfl
          refine take_ (i := 3) (N := some 24) (v := ?_) (a' := ?_) #[true, true, true, true, false, true, false, true, true, false, false, false, false, false, false] rfl rfl (take_ofW HT_.out HW_.out (by kernel_rfl)) (fun _ _ _ h => h) (Or.inl ⟨by rfl, ?_⟩) hHeld ?_ ?_
          rotate_left
          · rintro w' ⟨s0, s1, s2, s3, s4, s5, s6, s7, s8, s9, s10, s11, s12⟩
            go_simp
            with_reducible rfl
          rotate_left
          · simp only [Act.put, List.setIfInBounds_toArray, List.set_cons_zero, List.set_cons_succ, i64_w, i32_w]
            rfl
          refine take_ (i := 6) (N := some 27) (v := ?_) (a' := ?_) #[true, true, true, true, false, true, true, true, true, false, false, false, false, false, false] rfl rfl (take_ofW HT_.out HW_.out (by kernel_rfl)) (fun _ _ _ h => h) (Or.inl ⟨by rfl, ?_⟩) hHeld ?_ ?_
          rotate_left
          · rintro w' ⟨s0, s1, s2, s3, s4, s5, s6, s7, s8, s9, s10, s11, s12⟩
            go_simp
            with_reducible rfl
          rotate_left
          · simp only [Act.put, List.setIfInBounds_toArray, List.set_cons_zero, List.set_cons_succ, i64_w, i32_w]
            rfl
          refine take_ (i := 9) (N := some 30) (v := ?_) (a' := ?_) #[true, true, true, true, false, true, true, true, true, true, false, false, false, false, false] rfl rfl (take_ofW HT_.out HW_.out (by kernel_rfl)) (fun _ _ _ h => h) (Or.inl ⟨by rfl, ?_⟩) hHeld ?_ ?_
          rotate_left
          · rintro w' ⟨s0, s1, s2, s3, s4, s5, s6, s7, s8, s9, s10, s11, s12⟩
            go_simp
            with_reducible rfl
          rotate_left
          · simp only [Act.put, List.setIfInBounds_toArray, List.set_cons_zero, List.set_cons_succ, i64_w, i32_w]
            rfl
          refine pure_ (i := 10) (N := some 31) (v := ?_) (a' := ?_) #[true, true, true, true, false, true, true, true, true, true, true, false, false, false, false] rfl rfl (any_of HT_.out (by kernel_rfl)) (fun _ _ _ h => h) (Or.inl ⟨by rfl, ?_⟩) ?_ ?_
          rotate_left
          · intro w'
            go_simp
            with_reducible rfl
          rotate_left
          · simp only [Act.put, List.setIfInBounds_toArray, List.set_cons_zero, List.set_cons_succ, i64_w, i32_w]
            rfl
          refine one_ (i := 4) (N := some 25) #[true, true, true, true, true, true, true, true, true, true, true, false, false, false, false] rfl rfl (one_of HT_.out (by kernel_rfl)) (by decide) (fun K hK => ?_)
          refine goes_ Try.func67 (by kernel_rfl) rfl #[.agg #[.int .i64 ((rd_T46 l0_2 x6_1).f0), .int .i64 ((rd_T46 l0_2 x6_1).f1), .int .i64 ((rd_T46 l0_2 x6_1).f2), .int .i64 ((rd_T46 l0_2 x6_1).f3), .int .i64 ((rd_T46 l0_2 x6_1).f4.f0), .int .i64 ((rd_T46 l0_2 x6_1).f4.f1), .int .i64 ((rd_T46 l0_2 x6_1).f5.f0), .int .i64 ((rd_T46 l0_2 x6_1).f5.f1)], .int .i64 a0_1] (by rfl) rfl rfl (by (try simp only [List.map_toArray, List.map_cons, List.map_nil]); first | done | rfl | (simp only [List.length_drop, List.length_take]; rfl)) ?_
          with_reducible refine (isobathref05_offset.calls k1 ((rd_T46 l0_2 x6_1).f0) ((rd_T46 l0_2 x6_1).f1) ((rd_T46 l0_2 x6_1).f2) ((rd_T46 l0_2 x6_1).f3) ((rd_T46 l0_2 x6_1).f4.f0) ((rd_T46 l0_2 x6_1).f4.f1) ((rd_T46 l0_2 x6_1).f5.f0) ((rd_T46 l0_2 x6_1).f5.f1) a0_1 t391 t392 _ A11.out).mono ?_
          rintro e w25 ⟨rfl, hb⟩
          refine ⟨_, rfl, ?_⟩
          have n0_ := Aside0.mk (blk_below (g := gb386) (o := .cells #[.int .i64 a0_0, .int .i64 a0_1, .slice (some ad389) l0_2.length c0_2] 30 (0, 0)) (by (with_reducible repeat (first | refine blk_drewN ?_ _ | refine blk_drew ?_ | refine blk_alloc ?_ _)); exact BK386.out) hb)
          have n1_ := Aside0.mk (blk_below (g := gb387) (o := .cells #[.int .i64 0, .int .i64 0] 35 (0, 0)) (by (with_reducible repeat (first | refine blk_drewN ?_ _ | refine blk_drew ?_ | refine blk_alloc ?_ _)); exact BK387.out) hb)
          have n2_ := Aside0.mk (blk_below (g := gb388) (o := .cells #[.int .i64 x389000_1, .int .i64 x389001_1] 35 (0, 0)) (by (with_reducible repeat (first | refine blk_drewN ?_ _ | refine blk_drew ?_ | refine blk_alloc ?_ _)); exact BK388.out) hb)
          have n3_ := Aside0.mk (blk_below (g := gb390) (o := .cells #[.int .i64 ((rd_T46 l0_2 x6_1).f0), .int .i64 ((rd_T46 l0_2 x6_1).f1), .int .i64 ((rd_T46 l0_2 x6_1).f2), .int .i64 ((rd_T46 l0_2 x6_1).f3), .int .i64 ((rd_T46 l0_2 x6_1).f4.f0), .int .i64 ((rd_T46 l0_2 x6_1).f4.f1), .int .i64 ((rd_T46 l0_2 x6_1).f5.f0), .int .i64 ((rd_T46 l0_2 x6_1).f5.f1)] 46 (0, 0)) (by (with_reducible repeat (first | refine blk_drewN ?_ _ | refine blk_drew ?_ | refine blk_alloc ?_ _)); exact BK390.out) hb)
          have n4_ := Aside0.mk (below_step (by repeat (first | (with_reducible first | exact HB.out | apply below_alloc | apply pw_below_drewN | apply below_drew1 | refine below_set ?_ GE386.out | refine below_set ?_ GE387.out | refine below_set ?_ GE388.out | refine below_set ?_ GE390.out) | exact HB.out)) hb)
          clear BK386
          clear BK387
          clear BK388
          clear BK390
          clear HB
          have BK386 := n0_
          have BK387 := n1_
          have BK388 := n2_
          have BK390 := n3_
          have HB := n4_
          clear n0_ n1_ n2_ n3_ n4_
          (try clear hb)
          (try clear hb2)
          (try clear hk)
          (try clear hi)
          refine hK.out _ _ ⟨(blk_cell BK388.out 0).trans rfl, (blk_cell BK388.out 1).trans rfl, (blk_cell BK390.out 0).trans rfl, (blk_cell BK390.out 1).trans rfl, (blk_cell BK390.out 2).trans rfl, (blk_cell BK390.out 3).trans rfl, (blk_cell BK390.out 4).trans rfl, (blk_cell BK390.out 5).trans rfl, (blk_cell BK390.out 6).trans rfl, (blk_cell BK390.out 7).trans rfl, (blk_cell BK386.out 0).trans rfl, (blk_cell BK386.out 1).trans rfl, (blk_cell BK386.out 2).trans rfl⟩ (fun hHeld => ?_)
          clear hK K
          refine norm_ (a' := ?_) ?_ ?_
          rotate_left
          · show Act.put _ (some 25) _ = _
            simp only [Act.put, List.setIfInBounds_toArray, List.set_cons_zero, List.set_cons_succ, i64_w, i32_w]
            rfl
          refine one_ (i := 11) (N := some 32) #[true, true, true, true, true, true, true, true, true, true, true, true, false, false, false] rfl rfl (one_of HT_.out (by kernel_rfl)) (by decide) (fun K hK => ?_)
          refine goes_ Try.func24 (by kernel_rfl) rfl #[.int .i64 a0_1, .int .i64 (wrap64 (a1 - ((rd_T46 l0_2 x6_1).f3)))] (by rfl) rfl rfl (by (try simp only [List.map_toArray, List.map_cons, List.map_nil]); first | done | rfl | (simp only [List.length_drop, List.length_take]; rfl)) ?_
          with_reducible refine (isobathref05_Growth.calls k1 a0_1 (wrap64 (a1 - ((rd_T46 l0_2 x6_1).f3))) t393 _ A12.out).mono ?_
          rintro e w26 ⟨rfl, hb⟩
          refine ⟨_, rfl, ?_⟩
          have n0_ := Aside0.mk (blk_below (g := gb386) (o := .cells #[.int .i64 a0_0, .int .i64 a0_1, .slice (some ad389) l0_2.length c0_2] 30 (0, 0)) (by (with_reducible repeat (first | refine blk_drewN ?_ _ | refine blk_drew ?_ | refine blk_alloc ?_ _)); exact BK386.out) hb)
          have n1_ := Aside0.mk (blk_below (g := gb387) (o := .cells #[.int .i64 0, .int .i64 0] 35 (0, 0)) (by (with_reducible repeat (first | refine blk_drewN ?_ _ | refine blk_drew ?_ | refine blk_alloc ?_ _)); exact BK387.out) hb)
          have n2_ := Aside0.mk (blk_below (g := gb388) (o := .cells #[.int .i64 x389000_1, .int .i64 x389001_1] 35 (0, 0)) (by (with_reducible repeat (first | refine blk_drewN ?_ _ | refine blk_drew ?_ | refine blk_alloc ?_ _)); exact BK388.out) hb)
          have n3_ := Aside0.mk (blk_below (g := gb390) (o := .cells #[.int .i64 ((rd_T46 l0_2 x6_1).f0), .int .i64 ((rd_T46 l0_2 x6_1).f1), .int .i64 ((rd_T46 l0_2 x6_1).f2), .int .i64 ((rd_T46 l0_2 x6_1).f3), .int .i64 ((rd_T46 l0_2 x6_1).f4.f0), .int .i64 ((rd_T46 l0_2 x6_1).f4.f1), .int .i64 ((rd_T46 l0_2 x6_1).f5.f0), .int .i64 ((rd_T46 l0_2 x6_1).f5.f1)] 46 (0, 0)) (by (with_reducible repeat (first | refine blk_drewN ?_ _ | refine blk_drew ?_ | refine blk_alloc ?_ _)); exact BK390.out) hb)
          have n4_ := Aside0.mk (below_step (by repeat (first | (with_reducible first | exact HB.out | apply below_alloc | apply pw_below_drewN | apply below_drew1 | refine below_set ?_ GE386.out | refine below_set ?_ GE387.out | refine below_set ?_ GE388.out | refine below_set ?_ GE390.out) | exact HB.out)) hb)
          clear BK386
          clear BK387
          clear BK388
          clear BK390
          clear HB
          have BK386 := n0_
          have BK387 := n1_
          have BK388 := n2_
          have BK390 := n3_
          have HB := n4_
          clear n0_ n1_ n2_ n3_ n4_
          (try clear hb)
          (try clear hb2)
          (try clear hk)
          (try clear hi)
          refine hK.out _ _ ⟨(blk_cell BK388.out 0).trans rfl, (blk_cell BK388.out 1).trans rfl, (blk_cell BK390.out 0).trans rfl, (blk_cell BK390.out 1).trans rfl, (blk_cell BK390.out 2).trans rfl, (blk_cell BK390.out 3).trans rfl, (blk_cell BK390.out 4).trans rfl, (blk_cell BK390.out 5).trans rfl, (blk_cell BK390.out 6).trans rfl, (blk_cell BK390.out 7).trans rfl, (blk_cell BK386.out 0).trans rfl, (blk_cell BK386.out 1).trans rfl, (blk_cell BK386.out 2).trans rfl⟩ (fun hHeld => ?_)
          clear hK K
          refine norm_ (a' := ?_) ?_ ?_
          rotate_left
          · show Act.put _ (some 32) _ = _
            simp only [Act.put, List.setIfInBounds_toArray, List.set_cons_zero, List.set_cons_succ, i64_w, i32_w]
            rfl
          refine one_ (i := 12) (N := some 33) #[true, true, true, true, true, true, true, true, true, true, true, true, true, false, false] rfl rfl (one_of HT_.out (by kernel_rfl)) (by decide) (fun K hK => ?_)
          refine goes_ Try.func95 (by kernel_rfl) rfl #[.agg #[.int .i64 t391, .int .i64 t392], .int .i64 t393] (by rfl) rfl rfl (by (try simp only [List.map_toArray, List.map_cons, List.map_nil]); first | done | rfl | (simp only [List.length_drop, List.length_take]; rfl)) ?_
          with_reducible refine (isobathref05_grown.calls t391 t392 t393 t394 t395 _ A13.out).mono ?_
          rintro e w27 ⟨rfl, hb⟩
          refine ⟨_, rfl, ?_⟩
          have n0_ := Aside0.mk (blk_below (g := gb386) (o := .cells #[.int .i64 a0_0, .int .i64 a0_1, .slice (some ad389) l0_2.length c0_2] 30 (0, 0)) (by (with_reducible repeat (first | refine blk_drewN ?_ _ | refine blk_drew ?_ | refine blk_alloc ?_ _)); exact BK386.out) hb)
          have n1_ := Aside0.mk (blk_below (g := gb387) (o := .cells #[.int .i64 0, .int .i64 0] 35 (0, 0)) (by (with_reducible repeat (first | refine blk_drewN ?_ _ | refine blk_drew ?_ | refine blk_alloc ?_ _)); exact BK387.out) hb)
          have n2_ := Aside0.mk (blk_below (g := gb388) (o := .cells #[.int .i64 x389000_1, .int .i64 x389001_1] 35 (0, 0)) (by (with_reducible repeat (first | refine blk_drewN ?_ _ | refine blk_drew ?_ | refine blk_alloc ?_ _)); exact BK388.out) hb)
          have n3_ := Aside0.mk (blk_below (g := gb390) (o := .cells #[.int .i64 ((rd_T46 l0_2 x6_1).f0), .int .i64 ((rd_T46 l0_2 x6_1).f1), .int .i64 ((rd_T46 l0_2 x6_1).f2), .int .i64 ((rd_T46 l0_2 x6_1).f3), .int .i64 ((rd_T46 l0_2 x6_1).f4.f0), .int .i64 ((rd_T46 l0_2 x6_1).f4.f1), .int .i64 ((rd_T46 l0_2 x6_1).f5.f0), .int .i64 ((rd_T46 l0_2 x6_1).f5.f1)] 46 (0, 0)) (by (with_reducible repeat (first | refine blk_drewN ?_ _ | refine blk_drew ?_ | refine blk_alloc ?_ _)); exact BK390.out) hb)
          have n4_ := Aside0.mk (below_step (by repeat (first | (with_reducible first | exact HB.out | apply below_alloc | apply pw_below_drewN | apply below_drew1 | refine below_set ?_ GE386.out | refine below_set ?_ GE387.out | refine below_set ?_ GE388.out | refine below_set ?_ GE390.out) | exact HB.out)) hb)
          clear BK386
          clear BK387
          clear BK388
          clear BK390
          clear HB
          have BK386 := n0_
          have BK387 := n1_
          have BK388 := n2_
          have BK390 := n3_
          have HB := n4_
          clear n0_ n1_ n2_ n3_ n4_
          (try clear hb)
          (try clear hb2)
          (try clear hk)
          (try clear hi)
          refine hK.out _ _ ⟨(blk_cell BK388.out 0).trans rfl, (blk_cell BK388.out 1).trans rfl, (blk_cell BK390.out 0).trans rfl, (blk_cell BK390.out 1).trans rfl, (blk_cell BK390.out 2).trans rfl, (blk_cell BK390.out 3).trans rfl, (blk_cell BK390.out 4).trans rfl, (blk_cell BK390.out 5).trans rfl, (blk_cell BK390.out 6).trans rfl, (blk_cell BK390.out 7).trans rfl, (blk_cell BK386.out 0).trans rfl, (blk_cell BK386.out 1).trans rfl, (blk_cell BK386.out 2).trans rfl⟩ (fun hHeld => ?_)
          clear hK K
          refine norm_ (a' := ?_) ?_ ?_
          rotate_left
          · show Act.put _ (some 33) _ = _
            simp only [Act.put, List.setIfInBounds_toArray, List.set_cons_zero, List.set_cons_succ, i64_w, i32_w]
            rfl
          refine one_ (i := 13) (N := some 34) #[true, true, true, true, true, true, true, true, true, true, true, true, true, true, false] rfl rfl (one_of HT_.out (by kernel_rfl)) (by decide) (fun K hK => ?_)
          refine goes_ Try.func86 (by kernel_rfl) rfl #[.agg #[.int .i64 x389000_1, .int .i64 x389001_1], .agg #[.int .i64 t394, .int .i64 t395]] (by rfl) rfl rfl (by (try simp only [List.map_toArray, List.map_cons, List.map_nil]); first | done | rfl | (simp only [List.length_drop, List.length_take]; rfl)) ?_
          with_reducible refine (isobathref05_meet.calls x389000_1 x389001_1 t394 t395 t396 t397 _ A14.out).mono ?_
          rintro e w28 ⟨rfl, hb⟩
          refine ⟨_, rfl, ?_⟩
          have n0_ := Aside0.mk (blk_below (g := gb386) (o := .cells #[.int .i64 a0_0, .int .i64 a0_1, .slice (some ad389) l0_2.length c0_2] 30 (0, 0)) (by (with_reducible repeat (first | refine blk_drewN ?_ _ | refine blk_drew ?_ | refine blk_alloc ?_ _)); exact BK386.out) hb)
          have n1_ := Aside0.mk (blk_below (g := gb387) (o := .cells #[.int .i64 0, .int .i64 0] 35 (0, 0)) (by (with_reducible repeat (first | refine blk_drewN ?_ _ | refine blk_drew ?_ | refine blk_alloc ?_ _)); exact BK387.out) hb)
          have n2_ := Aside0.mk (blk_below (g := gb388) (o := .cells #[.int .i64 x389000_1, .int .i64 x389001_1] 35 (0, 0)) (by (with_reducible repeat (first | refine blk_drewN ?_ _ | refine blk_drew ?_ | refine blk_alloc ?_ _)); exact BK388.out) hb)
          have n3_ := Aside0.mk (blk_below (g := gb390) (o := .cells #[.int .i64 ((rd_T46 l0_2 x6_1).f0), .int .i64 ((rd_T46 l0_2 x6_1).f1), .int .i64 ((rd_T46 l0_2 x6_1).f2), .int .i64 ((rd_T46 l0_2 x6_1).f3), .int .i64 ((rd_T46 l0_2 x6_1).f4.f0), .int .i64 ((rd_T46 l0_2 x6_1).f4.f1), .int .i64 ((rd_T46 l0_2 x6_1).f5.f0), .int .i64 ((rd_T46 l0_2 x6_1).f5.f1)] 46 (0, 0)) (by (with_reducible repeat (first | refine blk_drewN ?_ _ | refine blk_drew ?_ | refine blk_alloc ?_ _)); exact BK390.out) hb)
          have n4_ := Aside0.mk (below_step (by repeat (first | (with_reducible first | exact HB.out | apply below_alloc | apply pw_below_drewN | apply below_drew1 | refine below_set ?_ GE386.out | refine below_set ?_ GE387.out | refine below_set ?_ GE388.out | refine below_set ?_ GE390.out) | exact HB.out)) hb)
          clear BK386
          clear BK387
          clear BK388
          clear BK390
          clear HB
          have BK386 := n0_
          have BK387 := n1_
          have BK388 := n2_
          have BK390 := n3_
          have HB := n4_
          clear n0_ n1_ n2_ n3_ n4_
          (try clear hb)
          (try clear hb2)
          (try clear hk)
          (try clear hi)
          refine hK.out _ _ ⟨(blk_cell BK388.out 0).trans rfl, (blk_cell BK388.out 1).trans rfl, (blk_cell BK390.out 0).trans rfl, (blk_cell BK390.out 1).trans rfl, (blk_cell BK390.out 2).trans rfl, (blk_cell BK390.out 3).trans rfl, (blk_cell BK390.out 4).trans rfl, (blk_cell BK390.out 5).trans rfl, (blk_cell BK390.out 6).trans rfl, (blk_cell BK390.out 7).trans rfl, (blk_cell BK386.out 0).trans rfl, (blk_cell BK386.out 1).trans rfl, (blk_cell BK386.out 2).trans rfl⟩ (fun hHeld => ?_)
          clear hK K
          refine norm_ (a' := ?_) ?_ ?_
          rotate_left
          · show Act.put _ (some 34) _ = _
            simp only [Act.put, List.setIfInBounds_toArray, List.set_cons_zero, List.set_cons_succ, i64_w, i32_w]
            rfl
          refine last_ (i := 14) (N := none) #[true, true, true, true, true, true, true, true, true, true, true, true, true, true, true] rfl rfl (one_of HT_.out (by kernel_rfl)) (by decide) (fun K hK => ?_)
          have hs29 : w28.cell? ⟨gb388, 0, none⟩ = some (.int .i64 x389000_1) := (blk_cell BK388.out 0).trans rfl
          have hfs29 := blk_frozen BK388.out 0
          have hns29_0 := NB386_388.out
          have hns29_1 := NB387_388.out
          have hns29_3 := NB390_388.out
          have hms29_0 := NB388_386.out
          have hms29_1 := NB388_387.out
          have hms29_3 := NB388_390.out
          have hs30 : w28.cell? ⟨gb388, 1, none⟩ = some (.int .i64 x389001_1) := (blk_cell BK388.out 1).trans rfl
          have hfs30 := blk_frozen BK388.out 1
          have hns30_0 := NB386_388.out
          have hns30_1 := NB387_388.out
          have hns30_3 := NB390_388.out
          have hms30_0 := NB388_386.out
          have hms30_1 := NB388_387.out
          have hms30_3 := NB388_390.out
          refine skip_ (w1 := ?_) (by rfl) rfl ?_ ?_
          rotate_left
          · go_simp
            rfl
          refine hK.out _ _ ?_
          clear hK K
          refine done_ (done_of HT_.out (by kernel_rfl)) ?_
          try go_wp2
          go_roundg k1
          case measure => have := HK1.out; omega
          case rel => exact ⟨(wrap64 (x6_1 + 1)), (t396), (t397), (by first | rfl | (simp; done) | (simp [*]; done)), H', ⟨by have := HK1.out; omega⟩, ⟨by (with_reducible repeat (first | refine blk_drewN ?_ _ | refine blk_drew ?_ | refine blk_alloc ?_ _)); refine blk_far ?_ NB386_388.out _; (with_reducible repeat (first | refine blk_drewN ?_ _ | refine blk_drew ?_ | refine blk_alloc ?_ _)); refine blk_far ?_ NB386_388.out _; (with_reducible repeat (first | refine blk_drewN ?_ _ | refine blk_drew ?_ | refine blk_alloc ?_ _)); exact BK386.out⟩, ⟨by (with_reducible repeat (first | refine blk_drewN ?_ _ | refine blk_drew ?_ | refine blk_alloc ?_ _)); refine blk_far ?_ NB387_388.out _; (with_reducible repeat (first | refine blk_drewN ?_ _ | refine blk_drew ?_ | refine blk_alloc ?_ _)); refine blk_far ?_ NB387_388.out _; (with_reducible repeat (first | refine blk_drewN ?_ _ | refine blk_drew ?_ | refine blk_alloc ?_ _)); exact BK387.out⟩, ⟨by (with_reducible repeat (first | refine blk_drewN ?_ _ | refine blk_drew ?_ | refine blk_alloc ?_ _)); refine blk_put (cs := #[.int .i64 t396, .int .i64 x389001_1]) ?_ 1 _ rfl; (with_reducible repeat (first | refine blk_drewN ?_ _ | refine blk_drew ?_ | refine blk_alloc ?_ _)); refine blk_put (cs := #[.int .i64 x389000_1, .int .i64 x389001_1]) ?_ 0 _ rfl; (with_reducible repeat (first | refine blk_drewN ?_ _ | refine blk_drew ?_ | refine blk_alloc ?_ _)); exact BK388.out⟩, ⟨by repeat (first | (with_reducible first | exact HB.out | apply below_alloc | apply pw_below_drewN | apply below_drew1 | refine below_set ?_ GE386.out | refine below_set ?_ GE387.out | refine below_set ?_ GE388.out | refine below_set ?_ GE390.out) | exact HB.out)⟩⟩
        · rw [if_neg c10] at H
          exact absurd H (by simp)
      · rw [if_neg c9] at H
        have c9b0 : decide (x6_1 < (l0_2.length : Int)) = false := decide_eq_false c9
        clear c9
        simp only [Option.some.injEq, Prod.mk.injEq] at H
        obtain ⟨rfl, rfl⟩ := H
        have hnb31 := NB386_387.out
        have hnc31 := NB387_386.out
        have hnb32 := NB386_388.out
        have hnc32 := NB388_386.out
        have hcz33_0 : wr.cell? ⟨gb386, 0, none⟩ = some (.int .i64 a0_0) := (blk_cell BK386.out 0).trans rfl
        have hcz33_1 : wr.cell? ⟨gb386, 1, none⟩ = some (.int .i64 a0_1) := (blk_cell BK386.out 1).trans rfl
        have hcz33_2 : wr.cell? ⟨gb386, 2, none⟩ = some (.slice A0_2 l0_2.length c0_2) := (blk_cell BK386.out 2).trans rfl
        have hfz33_0 := blk_frozen BK386.out 0
        have hfz33_1 := blk_frozen BK386.out 1
        have hfz33_2 := blk_frozen BK386.out 2
        have hnb34 := NB388_387.out
        have hnc34 := NB387_388.out
        have hcz35_0 : wr.cell? ⟨gb388, 0, none⟩ = some (.int .i64 x389000_1) := (blk_cell BK388.out 0).trans rfl
        have hcz35_1 : wr.cell? ⟨gb388, 1, none⟩ = some (.int .i64 x389001_1) := (blk_cell BK388.out 1).trans rfl
        have hfz35_0 := blk_frozen BK388.out 0
        have hfz35_1 := blk_frozen BK388.out 1
        have hcz36_0 : wr.cell? ⟨gb387, 0, none⟩ = some (.int .i64 0) := (blk_cell BK387.out 0).trans rfl
        have hcz36_1 : wr.cell? ⟨gb387, 1, none⟩ = some (.int .i64 0) := (blk_cell BK387.out 1).trans rfl
        have hfz36_0 := blk_frozen BK387.out 0
        have hfz36_1 := blk_frozen BK387.out 1
        go_wp2
        refine bodyPost_ret (results_cell_row rfl _ _ gb387 35 #[.int .i64 x389000_1, .int .i64 x389001_1] (0, 0) _ rfl (by (with_reducible repeat (first | refine blk_drewN ?_ _ | refine blk_drew ?_ | refine blk_alloc ?_ _)); refine blk_put (cs := #[.int .i64 x389000_1, .int .i64 0]) ?_ 1 _ rfl; (with_reducible repeat (first | refine blk_drewN ?_ _ | refine blk_drew ?_ | refine blk_alloc ?_ _)); refine blk_put (cs := #[.int .i64 0, .int .i64 0]) ?_ 0 _ rfl; (with_reducible repeat (first | refine blk_drewN ?_ _ | refine blk_drew ?_ | refine blk_alloc ?_ _)); exact BK387.out) Try.underlying35 rfl (by kernel_rfl)) rfl ?_
        exact ⟨by first | rfl | (simp [errW_none, errW_some] <;> rfl) | (simp [*, errW_none, errW_some] <;> rfl), by repeat (first | (with_reducible first | exact HB.out | apply below_alloc | apply pw_below_drewN | apply below_drew1 | refine below_set ?_ GE386.out | refine below_set ?_ GE387.out | refine below_set ?_ GE388.out) | exact HB.out)⟩

end Go.Proofs.Ytcjdhajdoikojaa.Pr
end
section
/- How the offset of a clock changes with the reading: behind the last exchange it becomes no narrower; halving finds the first reading. -/
namespace Go.Proofs.Ytcjdhajdoikojaa.Clk
open Go.RowKit Go.Proofs.YtcjdhajdoikojaaW.PrintWords Go.Proofs.YtcjdhajdoikojaaW.PrintMore Go.Proofs.Ytcjdhajdoikojaa.Pr

theorem gro_ceil (rate d : Int) : gro rate d = (rate * d + 999999999) / 1000000000 := by
  unfold gro
  have e : rate * d = rate * (d % 1000000000) + 1000000000 * (rate * (d / 1000000000)) := by
    conv => lhs; rw [← Int.emod_add_mul_ediv d 1000000000]
    rw [Int.mul_add, Int.mul_left_comm]
  rw [e]
  generalize rate * (d % 1000000000) = y
  generalize rate * (d / 1000000000) = x
  omega
theorem gro_mono {rate d d' : Int} (hr : 0 ≤ rate) (h : d ≤ d') : gro rate d ≤ gro rate d' := by
  rw [gro_ceil, gro_ceil]
  have := Int.mul_le_mul_of_nonneg_left h hr
  generalize rate * d = x at *
  generalize rate * d' = y at *
  omega
/-- The common part of spans that are given by their ends. -/
def meetU {α : Type} (lo hi : α → Int) (o : Int × Int) (l : List α) : Int × Int := l.foldl (fun o a => (max o.1 (lo a), min o.2 (hi a))) o
theorem meetU_mono {α : Type} {lo hi lo' hi' : α → Int} : ∀ (l : List α) (o o' : Int × Int), o'.1 ≤ o.1 → o.2 ≤ o'.2 → (∀ a ∈ l, lo' a ≤ lo a ∧ hi a ≤ hi' a) → (meetU lo' hi' o' l).1 ≤ (meetU lo hi o l).1 ∧ (meetU lo hi o l).2 ≤ (meetU lo' hi' o' l).2
  | [], o, o', h1, h2, _ => ⟨h1, h2⟩
  | a :: l, o, o', h1, h2, h => by
    have ha := h a List.mem_cons_self
    exact meetU_mono l _ _ (by dsimp only; omega) (by dsimp only; omega) (fun b hb => h b (List.mem_cons_of_mem _ hb))
theorem meetU_range {α : Type} {lo hi : α → Int} {A B : Int} : ∀ (l : List α) (o : Int × Int), A ≤ o.1 → o.1 ≤ B → A ≤ o.2 → o.2 ≤ B → (∀ a ∈ l, (A ≤ lo a ∧ lo a ≤ B) ∧ (A ≤ hi a ∧ hi a ≤ B)) → (A ≤ (meetU lo hi o l).1 ∧ (meetU lo hi o l).1 ≤ B) ∧ (A ≤ (meetU lo hi o l).2 ∧ (meetU lo hi o l).2 ≤ B)
  | [], o, h1, h2, h3, h4, _ => ⟨⟨h1, h2⟩, h3, h4⟩
  | a :: l, o, h1, h2, h3, h4, h => by
    have ha := h a List.mem_cons_self
    exact meetU_range l _ (by dsimp only; omega) (by dsimp only; omega) (by dsimp only; omega) (by dsimp only; omega) (fun b hb => h b (List.mem_cons_of_mem _ hb))
/-- The ends of an anchor that is seen at a reading. -/
def loA (rate t : Int) (a : S105) : Int := a.f0.f0 - gro rate (dis a.f1 t)
def hiA (rate t : Int) (a : S105) : Int := a.f0.f1 + gro rate (dis a.f1 t)
def top : Int × Int := (-9223372036854775808, 9223372036854775807)
theorem foldl_meetU {rate t : Int} (hr0 : 0 ≤ rate) (hr1 : rate ≤ 1000000) (ht0 : 0 ≤ t) (ht1 : t ≤ 2251799813685248) : ∀ (ys : List S105) (o : Int × Int), (∀ a ∈ ys, VA a) → (ys.map fun a => seenI rate a t).foldl (fun o a => (mx o.1 a.f0, mn o.2 a.f1)) o = meetU (loA rate t) (hiA rate t) o ys
  | [], _, _ => rfl
  | a :: l, o, h => by
    rw [List.map_cons, List.foldl_cons, seenI_eq hr0 hr1 (h a List.mem_cons_self) ht0 ht1, mx_max, mn_min]
    exact foldl_meetU hr0 hr1 ht0 ht1 l _ (fun b hb => h b (List.mem_cons_of_mem _ hb))
theorem atI_eq {rate t : Int} {ys : List S105} (hr0 : 0 ≤ rate) (hr1 : rate ≤ 1000000) (ht0 : 0 ≤ t) (ht1 : t ≤ 2251799813685248) (hv : ∀ a ∈ ys, VA a) : atI rate ys t = meetU (loA rate t) (hiA rate t) top ys := foldl_meetU hr0 hr1 ht0 ht1 ys _ hv
theorem ends_range {rate t : Int} {a : S105} (hr0 : 0 ≤ rate) (hr1 : rate ≤ 1000000) (ht0 : 0 ≤ t) (ht1 : t ≤ 2251799813685248) (ha : VA a) : (-2260000000000 ≤ loA rate t a ∧ loA rate t a ≤ 2260000000000) ∧ (-2260000000000 ≤ hiA rate t a ∧ hiA rate t a ≤ 2260000000000) := by
  obtain ⟨h1, h2, h3, h4, h5⟩ := ha
  have hg := gro_range hr0 hr1 (d := dis a.f1 t) (by unfold dis; omega) (by unfold dis; omega)
  unfold loA hiA
  omega
theorem atI_range {rate t : Int} {ys : List S105} (hr0 : 0 ≤ rate) (hr1 : rate ≤ 1000000) (ht0 : 0 ≤ t) (ht1 : t ≤ 2251799813685248) (hv : ∀ a ∈ ys, VA a) (h1 : 1 ≤ ys.length) : (-2260000000000 ≤ (atI rate ys t).1 ∧ (atI rate ys t).1 ≤ 2260000000000) ∧ (-2260000000000 ≤ (atI rate ys t).2 ∧ (atI rate ys t).2 ≤ 2260000000000) := by
  rw [atI_eq hr0 hr1 ht0 ht1 hv]
  cases ys with
  | nil => simp at h1
  | cons a l =>
    have ha := ends_range hr0 hr1 ht0 ht1 (hv a List.mem_cons_self)
    exact meetU_range l _ (by show _ ≤ max (-9223372036854775808) _; omega) (by show max (-9223372036854775808) _ ≤ _; omega) (by show _ ≤ min 9223372036854775807 _; omega) (by show min 9223372036854775807 _ ≤ _; omega) (fun b hb => ends_range hr0 hr1 ht0 ht1 (hv b (List.mem_cons_of_mem _ hb)))
theorem atI_later {rate s t : Int} {ys : List S105} (hr0 : 0 ≤ rate) (hr1 : rate ≤ 1000000) (hs0 : 0 ≤ s) (hst : s ≤ t) (ht1 : t ≤ 2251799813685248) (hv : ∀ a ∈ ys, VA a) (hl : ∀ a ∈ ys, a.f1 ≤ s) : (atI rate ys t).1 ≤ (atI rate ys s).1 ∧ (atI rate ys s).2 ≤ (atI rate ys t).2 := by
  rw [atI_eq hr0 hr1 hs0 (by omega) hv, atI_eq hr0 hr1 (by omega) ht1 hv]
  refine meetU_mono ys _ _ (Int.le_refl _) (Int.le_refl _) fun a ha => ?_
  have h1 := hl a ha
  have hg := gro_mono hr0 (show dis a.f1 s ≤ dis a.f1 t by unfold dis; omega)
  unfold loA hiA
  omega
theorem cmpI_pos {a b : S105} (ha : VA a) (hb : VA b) : 0 < cmpI a b ↔ b.f1 < a.f1 := by
  obtain ⟨h1, h2, _⟩ := ha
  obtain ⟨h3, h4, _⟩ := hb
  unfold cmpI
  rw [wrap_id (by omega) (by omega), mx_max, mn_min]
  omega
theorem maxA_ge {ys : List S105} (hv : ∀ a ∈ ys, VA a) : ∀ a ∈ ys, a.f1 ≤ (maxA ys).f1 := by
  have key : ∀ (l : List S105) (m : S105), VA m → (∀ a ∈ l, VA a) → m.f1 ≤ (l.foldl maxStep m).f1 ∧ ∀ a ∈ l, a.f1 ≤ (l.foldl maxStep m).f1 := by
    intro l
    induction l with
    | nil => exact fun m _ _ => ⟨Int.le_refl _, fun a h => by cases h⟩
    | cons x l ih =>
      intro m hm hl
      have hx := hl x List.mem_cons_self
      have hs : VA (maxStep m x) ∧ m.f1 ≤ (maxStep m x).f1 ∧ x.f1 ≤ (maxStep m x).f1 := by
        unfold maxStep
        by_cases h : 0 < cmpI x m
        · rw [if_pos h]
          have := (cmpI_pos hx hm).1 h
          exact ⟨hx, by omega, Int.le_refl _⟩
        · rw [if_neg h]
          have : ¬ m.f1 < x.f1 := fun h' => h ((cmpI_pos hx hm).2 h')
          exact ⟨hm, Int.le_refl _, by omega⟩
      obtain ⟨i1, i2⟩ := ih (maxStep m x) hs.1 (fun a ha => hl a (List.mem_cons_of_mem _ ha))
      refine ⟨Int.le_trans hs.2.1 i1, fun a ha => ?_⟩
      rcases List.mem_cons.1 ha with rfl | ha
      · exact Int.le_trans hs.2.2 i1
      · exact i2 a ha
  cases ys with
  | nil => exact fun a h => by cases h
  | cons x l =>
    obtain ⟨i1, i2⟩ := key l x (hv x List.mem_cons_self) (fun a ha => hv a (List.mem_cons_of_mem _ ha))
    intro a ha
    rcases List.mem_cons.1 ha with rfl | ha
    · exact i1
    · exact i2 a ha
theorem maxA_mem {ys : List S105} (h1 : 1 ≤ ys.length) : maxA ys ∈ ys := maxA_all (fun a => a ∈ ys) ys h1 (fun _ h => h)
/-- Halving finds a place where the answer turns. -/
theorem searchI_turn (p : Int → Bool) (n : Int) : ∀ (f : Nat) (i j : Int), i ≤ j → j - i ≤ (f : Int) → (i = 0 ∨ p (i - 1) = false) → (j = n ∨ p j = true) → (searchI p f i j = 0 ∨ p (searchI p f i j - 1) = false) ∧ (searchI p f i j = n ∨ p (searchI p f i j) = true)
  | 0, i, j, h, hf, hi, hj => by
    obtain rfl : i = j := by omega
    exact ⟨hi, hj⟩
  | f + 1, i, j, h, hf, hi, hj => by
    rw [searchI]
    by_cases h1 : i < j
    · rw [if_pos h1]
      by_cases h2 : p ((i + j) / 2) = true
      · rw [if_pos h2]
        exact searchI_turn p n f i _ (by omega) (by omega) hi (.inr h2)
      · rw [if_neg h2]
        exact searchI_turn p n f _ j (by omega) (by omega) (.inr (by rw [show (i + j) / 2 + 1 - 1 = (i + j) / 2 by omega]; simpa using h2)) hj
    · rw [if_neg h1]
      obtain rfl : i = j := by omega
      exact ⟨hi, hj⟩
/-- The width of an offset. -/
def wid (rate : Int) (ys : List S105) (t : Int) : Int := (atI rate ys t).2 - (atI rate ys t).1
theorem wideI_eq {rate limit t : Int} {ys : List S105} (hr0 : 0 ≤ rate) (hr1 : rate ≤ 1000000) (ht0 : 0 ≤ t) (ht1 : t ≤ 2251799813685248) (hv : ∀ a ∈ ys, VA a) (h1 : 1 ≤ ys.length) : wideI rate ys limit t = decide (limit < wid rate ys t) := by
  have := atI_range hr0 hr1 ht0 ht1 hv h1
  unfold wideI wid
  rw [wrap_id (by omega) (by omega)]
/-- What is known of a valid and sound clock's due reading. -/
theorem due_facts {par rate limit : Int} {xs : List S46} (h0 : faceE par rate xs = 0) : (0 ≤ lastI rate xs ∧ lastI rate xs ≤ 1125899906842624) ∧ (∀ a ∈ xs.map (anchorI rate), a.f1 ≤ lastI rate xs) ∧ (∃ a ∈ xs.map (anchorI rate), a.f1 = lastI rate xs) ∧
    (0 ≤ dueN rate xs limit ∧ dueN rate xs limit ≤ 1125899906842624 - lastI rate xs + 1) ∧ (lastI rate xs + dueN rate xs limit ≤ 1125899906842624 → limit < wid rate (xs.map (anchorI rate)) (lastI rate xs + dueN rate xs limit)) ∧
    (∀ t, lastI rate xs ≤ t → t < lastI rate xs + dueN rate xs limit → wid rate (xs.map (anchorI rate)) t ≤ limit) := by
  have hv := va_all h0
  obtain ⟨hp, hr0, hr1⟩ := faceE_rate h0
  have h1 : 1 ≤ (xs.map (anchorI rate)).length := by rw [List.length_map]; exact (faceE_one h0).1
  have hm := maxA_mem h1
  have hge := maxA_ge hv
  have hlr : 0 ≤ lastI rate xs ∧ lastI rate xs ≤ 1125899906842624 := by have := hv _ hm; exact ⟨this.1, this.2.1⟩
  have hN : dueN rate xs limit = searchI (fun i => wideI rate (xs.map (anchorI rate)) limit (wrap64 (lastI rate xs + i))) (1125899906842624 - lastI rate xs + 1).toNat 0 (1125899906842624 - lastI rate xs + 1) := rfl
  have hrg := searchI_range (fun i => wideI rate (xs.map (anchorI rate)) limit (wrap64 (lastI rate xs + i))) (1125899906842624 - lastI rate xs + 1).toNat 0 (1125899906842624 - lastI rate xs + 1) (by omega)
  have htu := searchI_turn (fun i => wideI rate (xs.map (anchorI rate)) limit (wrap64 (lastI rate xs + i))) (1125899906842624 - lastI rate xs + 1) (1125899906842624 - lastI rate xs + 1).toNat 0 (1125899906842624 - lastI rate xs + 1) (by omega) (by omega) (.inl rfl) (.inl rfl)
  rw [← hN] at hrg htu
  refine ⟨hlr, hge, ⟨_, hm, rfl⟩, hrg, ?_, ?_⟩
  · intro hle
    rcases htu.2 with e | e
    · omega
    · rw [wrap_id (by omega) (by omega), wideI_eq hr0 hr1 (by omega) (by omega) hv h1] at e
      exact of_decide_eq_true e
  · intro t ht0 ht1
    rcases htu.1 with e | e
    · omega
    · rw [wrap_id (by omega) (by omega), wideI_eq hr0 hr1 (by omega) (by omega) hv h1] at e
      have e' := of_decide_eq_false e
      have hl := atI_later hr0 hr1 (show 0 ≤ t by omega) (show t ≤ lastI rate xs + (dueN rate xs limit - 1) by omega) (by omega) hv (fun a ha => Int.le_trans (hge a ha) ht0)
      unfold wid at *
      omega
end Go.Proofs.Ytcjdhajdoikojaa.Clk
end
section
-- PRINTED by print.py (a twelfth state) out of the translation. Not trusted: Lean checks it.
namespace Go.Proofs.Ytcjdhajdoikojaa.Pr
open Go.RowKit Go.Proofs.YtcjdhajdoikojaaW.PrintWords Go.Proofs.YtcjdhajdoikojaaW.PrintLast Go.Proofs.YtcjdhajdoikojaaW.PrintMore
attribute [local go_sem] max2_int min2_int max_two min_two
set_option linter.unusedVariables false
set_option linter.unusedSimpArgs false

/-! ### isobathref05_Offset: function 28 -/
def isobathref05_Offset.j0 : Nat → Int → Bool → Int → Int → Int → Int → Int → Int → Int → Int → Option (Int × Int × Int)
  | 0, _, _, _, _, _, _, _, _, _, _ => none
  | k + 1, x1, x18, x375000, x375001, x375002, x375003, x375004, x375005, x375006, x375007 => if x18 = true then (some (0, 0, 3)) else ((isobathref05_offset.f k x375000 x375001 x375002 x375003 x375004 x375005 x375006 x375007 x1).bind fun bt378 => (if bt378.1 > bt378.2 then (some (0, 0, 5)) else (some (bt378.1, bt378.2, 0))))
def isobathref05_Offset.f (k : Nat) (a0_0 : Int) (a0_1 : Int) (a0_2 : Int) (a0_3 : Int) (a0_4 : Int) (a0_5 : Int) (a0_6 : Int) (a0_7 : Int) (a1 : Int) : Option (Int × Int × Int) := (isobathref05_CheckExchange.f k a0_0 a0_1 a0_2 a0_3 a0_4 a0_5 a0_6 a0_7).bind fun t376 => (if t376 = 0 then (if a1 < 0 then (isobathref05_Offset.j0 k a1 true a0_0 a0_1 a0_2 a0_3 a0_4 a0_5 a0_6 a0_7) else (isobathref05_Offset.j0 k a1 (decide (a1 > 1000000)) a0_0 a0_1 a0_2 a0_3 a0_4 a0_5 a0_6 a0_7)) else ((isobathref05_CheckExchange.f k a0_0 a0_1 a0_2 a0_3 a0_4 a0_5 a0_6 a0_7).bind fun t377 => (some (0, 0, t377))))
set_option maxHeartbeats 8000000 in
set_option maxRecDepth 100000 in
theorem isobathref05_Offset.calls (k : Nat) (a0_0 : Int) (a0_1 : Int) (a0_2 : Int) (a0_3 : Int) (a0_4 : Int) (a0_5 : Int) (a0_6 : Int) (a0_7 : Int) (a1 : Int) (r1 : Int) (r2 : Int) (r3 : Int) (w : World) (h : isobathref05_Offset.f k a0_0 a0_1 a0_2 a0_3 a0_4 a0_5 a0_6 a0_7 a1 = some (r1, r2, r3)) :
    Calls Try.prog 28 #[.agg #[.int .i64 a0_0, .int .i64 a0_1, .int .i64 a0_2, .int .i64 a0_3, .int .i64 a0_4, .int .i64 a0_5, .int .i64 a0_6, .int .i64 a0_7], .int .i64 a1] w fun e w' => e = .returned (.tuple #[.agg #[.int .i64 r1, .int .i64 r2], .int .i64 r3]) ∧ Below w.heap.size w w' := by
  have hu46 := Try.underlying46
  have hu35 := Try.underlying35
  have HB := Aside0.mk (Below.refl w.heap.size w)
  have H : ((isobathref05_CheckExchange.f k a0_0 a0_1 a0_2 a0_3 a0_4 a0_5 a0_6 a0_7).bind fun t376 => (if t376 = 0 then (if a1 < 0 then (isobathref05_Offset.j0 k a1 true a0_0 a0_1 a0_2 a0_3 a0_4 a0_5 a0_6 a0_7) else (isobathref05_Offset.j0 k a1 (decide (a1 > 1000000)) a0_0 a0_1 a0_2 a0_3 a0_4 a0_5 a0_6 a0_7)) else ((isobathref05_CheckExchange.f k a0_0 a0_1 a0_2 a0_3 a0_4 a0_5 a0_6 a0_7).bind fun t377 => (some (0, 0, t377))))) = some (r1, r2, r3) := h
  clear h
  replace H := Option.bind_eq_some_iff.mp H
  obtain ⟨t376, A30, H⟩ := H
  replace H : (if t376 = 0 then (if a1 < 0 then (isobathref05_Offset.j0 k a1 true a0_0 a0_1 a0_2 a0_3 a0_4 a0_5 a0_6 a0_7) else (isobathref05_Offset.j0 k a1 (decide (a1 > 1000000)) a0_0 a0_1 a0_2 a0_3 a0_4 a0_5 a0_6 a0_7)) else ((isobathref05_CheckExchange.f k a0_0 a0_1 a0_2 a0_3 a0_4 a0_5 a0_6 a0_7).bind fun t377 => (some (0, 0, t377)))) = some (r1, r2, r3) := H
  have A3 := Aside0.mk A30
  clear A30
  by_cases c4 : t376 = 0
  · rw [if_pos c4] at H
    have c4b0 : (t376 == 0) = true := beq_iff_eq.mpr c4
    have c4b1 : (t376 != 0) = false := bne_eq_false_iff_eq.mpr c4
    clear c4
    have HC5 := Aside0.mk H
    clear H
    go_enter Try.func28, Try.ntmps28
    go_upto_region 3 with (first | ((with_reducible refine gate_dst (N := 2) rfl ?_); refine box_event ?hg (N := 2) ?hd (cs := #[.int .i64 a0_0, .int .i64 a0_1, .int .i64 a0_2, .int .i64 a0_3, .int .i64 a0_4, .int .i64 a0_5, .int .i64 a0_6, .int .i64 a0_7]) (t := 46) ?hr ?_; (case hd => rfl); (case hg => rfl); (case hr => first | (go_simp; done) | (go_simp; rfl)); intro gb374 hg w6 hbox hb; have n0_ := Aside0.mk (below_step (by repeat (first | (with_reducible first | exact HB.out | apply below_alloc | apply pw_below_drewN | apply below_drew1) | exact HB.out)) hb); have n1_ := Aside0.mk (hbox); have n2_ := Aside0.mk ((by rw [hg]; exact (below_size (by repeat (first | (with_reducible first | exact HB.out | apply below_alloc | apply pw_below_drewN | apply below_drew1) | exact HB.out))) : w.heap.size ≤ gb374)); have n3_ := Aside0.mk ((by rw [hg]; exact (below_size (by repeat (first | (with_reducible first | exact HB.out | apply below_alloc | apply pw_below_drewN | apply below_drew1) | exact HB.out))) : w.heap.size ≤ gb374)); clear HB; have HB := n0_; have BK374 := n1_; have GW374 := n2_; have GE374 := n3_; clear n0_ n1_ n2_ n3_; clear hb hbox hg) | ((with_reducible refine gate_dst (N := 4) rfl ?_); refine box_event ?hg (N := 4) ?hd (cs := #[.int .i64 0, .int .i64 0]) (t := 35) ?hr ?_; (case hd => rfl); (case hg => rfl); (case hr => first | (go_simp; done) | (go_simp; rfl)); intro gb375 hg w7 hbox hb; have n0_ := Aside0.mk (blk_below (g := gb374) (o := .cells #[.int .i64 a0_0, .int .i64 a0_1, .int .i64 a0_2, .int .i64 a0_3, .int .i64 a0_4, .int .i64 a0_5, .int .i64 a0_6, .int .i64 a0_7] 46 (0, 0)) (by (with_reducible repeat (first | refine blk_drewN ?_ _ | refine blk_drew ?_ | refine blk_alloc ?_ _)); exact BK374.out) hb); have n1_ := Aside0.mk (below_step (by repeat (first | (with_reducible first | exact HB.out | apply below_alloc | apply pw_below_drewN | apply below_drew1 | refine below_set ?_ GE374.out) | exact HB.out)) hb); have n2_ := Aside0.mk (hbox); have n3_ := Aside0.mk ((by rw [hg]; exact (below_size (by repeat (first | (with_reducible first | exact HB.out | apply below_alloc | apply pw_below_drewN | apply below_drew1 | refine below_set ?_ GE374.out) | exact HB.out))) : w.heap.size ≤ gb375)); have n4_ := Aside0.mk ((by rw [hg]; exact (below_size (by repeat (first | (with_reducible first | exact HB.out | apply below_alloc | apply pw_below_drewN | apply below_drew1 | refine below_set ?_ GE374.out) | exact HB.out))) : w.heap.size ≤ gb375)); have n5_ := Aside0.mk ((by rw [hg]; exact Nat.ne_of_lt (blk_lt (g := gb374) (o := .cells #[.int .i64 a0_0, .int .i64 a0_1, .int .i64 a0_2, .int .i64 a0_3, .int .i64 a0_4, .int .i64 a0_5, .int .i64 a0_6, .int .i64 a0_7] 46 (0, 0)) (by (with_reducible repeat (first | refine blk_drewN ?_ _ | refine blk_drew ?_ | refine blk_alloc ?_ _)); exact BK374.out)) : gb374 ≠ gb375)); have n6_ := Aside0.mk ((by rw [hg]; exact Nat.ne_of_gt (blk_lt (g := gb374) (o := .cells #[.int .i64 a0_0, .int .i64 a0_1, .int .i64 a0_2, .int .i64 a0_3, .int .i64 a0_4, .int .i64 a0_5, .int .i64 a0_6, .int .i64 a0_7] 46 (0, 0)) (by (with_reducible repeat (first | refine blk_drewN ?_ _ | refine blk_drew ?_ | refine blk_alloc ?_ _)); exact BK374.out)) : gb375 ≠ gb374)); clear BK374; clear HB; have BK374 := n0_; have HB := n1_; have BK375 := n2_; have GW375 := n3_; have GE375 := n4_; have NB374_375 := n5_; have NB375_374 := n6_; clear n0_ n1_ n2_ n3_ n4_ n5_ n6_; clear hb hbox hg; have hnb8 := NB374_375.out; have hnc8 := NB375_374.out; have hcz9_0 : w7.cell? ⟨gb374, 0, none⟩ = some (.int .i64 a0_0) := (blk_cell BK374.out 0).trans rfl; have hcz9_1 : w7.cell? ⟨gb374, 1, none⟩ = some (.int .i64 a0_1) := (blk_cell BK374.out 1).trans rfl; have hcz9_2 : w7.cell? ⟨gb374, 2, none⟩ = some (.int .i64 a0_2) := (blk_cell BK374.out 2).trans rfl; have hcz9_3 : w7.cell? ⟨gb374, 3, none⟩ = some (.int .i64 a0_3) := (blk_cell BK374.out 3).trans rfl; have hcz9_4 : w7.cell? ⟨gb374, 4, none⟩ = some (.int .i64 a0_4) := (blk_cell BK374.out 4).trans rfl; have hcz9_5 : w7.cell? ⟨gb374, 5, none⟩ = some (.int .i64 a0_5) := (blk_cell BK374.out 5).trans rfl; have hcz9_6 : w7.cell? ⟨gb374, 6, none⟩ = some (.int .i64 a0_6) := (blk_cell BK374.out 6).trans rfl; have hcz9_7 : w7.cell? ⟨gb374, 7, none⟩ = some (.int .i64 a0_7) := (blk_cell BK374.out 7).trans rfl; have hfz9_0 := blk_frozen BK374.out 0; have hfz9_1 := blk_frozen BK374.out 1; have hfz9_2 := blk_frozen BK374.out 2; have hfz9_3 := blk_frozen BK374.out 3; have hfz9_4 := blk_frozen BK374.out 4; have hfz9_5 := blk_frozen BK374.out 5; have hfz9_6 := blk_frozen BK374.out 6; have hfz9_7 := blk_frozen BK374.out 7) | ((with_reducible refine gate_callee (f := 31) rfl ?_); refine goesL_ (some 8) rfl rfl Try.func31 (by kernel_rfl) rfl #[.agg #[.int .i64 a0_0, .int .i64 a0_1, .int .i64 a0_2, .int .i64 a0_3, .int .i64 a0_4, .int .i64 a0_5, .int .i64 a0_6, .int .i64 a0_7]] rfl (by (try simp only [List.map_toArray, List.map_cons, List.map_nil]); first | done | rfl | (simp only [List.length_drop, List.length_take]; rfl)) ?_; (with_reducible refine (isobathref05_CheckExchange.calls k a0_0 a0_1 a0_2 a0_3 a0_4 a0_5 a0_6 a0_7 t376 _ A3.out).mono ?_); rintro e w10 ⟨rfl, hb⟩; refine ⟨_, rfl, ?_⟩; have n0_ := Aside0.mk (blk_below (g := gb374) (o := .cells #[.int .i64 a0_0, .int .i64 a0_1, .int .i64 a0_2, .int .i64 a0_3, .int .i64 a0_4, .int .i64 a0_5, .int .i64 a0_6, .int .i64 a0_7] 46 (0, 0)) (by (with_reducible repeat (first | refine blk_drewN ?_ _ | refine blk_drew ?_ | refine blk_alloc ?_ _)); exact BK374.out) hb); have n1_ := Aside0.mk (blk_below (g := gb375) (o := .cells #[.int .i64 0, .int .i64 0] 35 (0, 0)) (by (with_reducible repeat (first | refine blk_drewN ?_ _ | refine blk_drew ?_ | refine blk_alloc ?_ _)); exact BK375.out) hb); have n2_ := Aside0.mk (below_step (by repeat (first | (with_reducible first | exact HB.out | apply below_alloc | apply pw_below_drewN | apply below_drew1 | refine below_set ?_ GE374.out | refine below_set ?_ GE375.out) | exact HB.out)) hb); clear BK374; clear BK375; clear HB; have BK374 := n0_; have BK375 := n1_; have HB := n2_; clear n0_ n1_ n2_; (try clear hb); (try clear hb2); (try clear hk); (try clear hi)))
    (try simp only [Act.put, List.setIfInBounds_toArray, List.set_cons_zero, List.set_cons_succ])
    go_cut [18] (fun v18 wc => ∃ (kq : Nat) (x18_4 : Bool), v18 = .bool x18_4 ∧ Aside0 (isobathref05_Offset.j0 kq a1 x18_4 a0_0 a0_1 a0_2 a0_3 a0_4 a0_5 a0_6 a0_7 = some (r1, r2, r3)) ∧ Aside0 (kq ≤ k) ∧ Aside0 (wc.heap[gb374]? = some (.cells #[.int .i64 a0_0, .int .i64 a0_1, .int .i64 a0_2, .int .i64 a0_3, .int .i64 a0_4, .int .i64 a0_5, .int .i64 a0_6, .int .i64 a0_7] 46 (0, 0))) ∧ Aside0 (wc.heap[gb375]? = some (.cells #[.int .i64 0, .int .i64 0] 35 (0, 0))) ∧ Aside0 (Below w.heap.size w wc))
    case first =>
      have H := HC5.out
      clear HC5
      by_cases c11 : a1 < 0
      · rw [if_pos c11] at H
        have c11b0 : decide (a1 < 0) = true := decide_eq_true c11
        clear c11
        (first | rw [c11b0] | (simp only [i64_w, i32_w]; rw [c11b0]) | skip)
        have H' := Aside0.mk H
        clear H
        go_wp2
        go_meet
        case rel => exact ⟨_, (true), (by first | rfl | (simp; done) | (simp [*]; done)), H', ⟨by first | omega | exact Nat.le_refl _⟩, ⟨by (with_reducible repeat (first | refine blk_drewN ?_ _ | refine blk_drew ?_ | refine blk_alloc ?_ _)); exact BK374.out⟩, ⟨by (with_reducible repeat (first | refine blk_drewN ?_ _ | refine blk_drew ?_ | refine blk_alloc ?_ _)); exact BK375.out⟩, ⟨by repeat (first | (with_reducible first | exact HB.out | apply below_alloc | apply pw_below_drewN | apply below_drew1 | refine below_set ?_ GE374.out | refine below_set ?_ GE375.out) | exact HB.out)⟩⟩
      · rw [if_neg c11] at H
        have c11b0 : decide (a1 < 0) = false := decide_eq_false c11
        clear c11
        (first | rw [c11b0] | (simp only [i64_w, i32_w]; rw [c11b0]) | skip)
        have H' := Aside0.mk H
        clear H
        go_wp2
        go_meet
        case rel => exact ⟨_, (decide (a1 > 1000000)), (by first | rfl | (simp; done) | (simp [*]; done)), H', ⟨by first | omega | exact Nat.le_refl _⟩, ⟨by (with_reducible repeat (first | refine blk_drewN ?_ _ | refine blk_drew ?_ | refine blk_alloc ?_ _)); exact BK374.out⟩, ⟨by (with_reducible repeat (first | refine blk_drewN ?_ _ | refine blk_drew ?_ | refine blk_alloc ?_ _)); exact BK375.out⟩, ⟨by repeat (first | (with_reducible first | exact HB.out | apply below_alloc | apply pw_below_drewN | apply below_drew1 | refine below_set ?_ GE374.out | refine below_set ?_ GE375.out) | exact HB.out)⟩⟩
    case rest =>
      clear HC5
      try clear c1
      try clear c2
      try clear p2
      try clear c3
      try clear c4
      try clear c4b0
      try clear c4b1
      try clear c8
      try clear c11
      try clear c11b0
      try clear hcz9_0
      try clear hcz9_1
      try clear hcz9_2
      try clear hcz9_3
      try clear hcz9_4
      try clear hcz9_5
      try clear hcz9_6
      try clear hcz9_7
      try clear hfz9_0
      try clear hfz9_1
      try clear hfz9_2
      try clear hfz9_3
      try clear hfz9_4
      try clear hfz9_5
      try clear hfz9_6
      try clear hfz9_7
      obtain ⟨kq, x18_4, rfl, HA, HJ4, BK374, BK375, HB⟩ := hcut
      cases kq with
      | zero => exact absurd HA.out (by simp [isobathref05_Offset.j0])
      | succ kj4 =>
        have H := HA.out
        clear HA
        simp only [isobathref05_Offset.j0] at H
        by_cases c12 : x18_4 = true
        · subst c12
          have H1 : (some (0, 0, 3)) = some (r1, r2, r3) := by rw [if_pos rfl] at H; exact H
          clear H
          have H := H1
          clear H1
          simp only [Option.some.injEq, Prod.mk.injEq] at H
          obtain ⟨rfl, rfl, rfl⟩ := H
          have hnb13 := NB375_374.out
          have hnc13 := NB374_375.out
          have hcz14_0 : wc.cell? ⟨gb375, 0, none⟩ = some (.int .i64 0) := (blk_cell BK375.out 0).trans rfl
          have hcz14_1 : wc.cell? ⟨gb375, 1, none⟩ = some (.int .i64 0) := (blk_cell BK375.out 1).trans rfl
          have hfz14_0 := blk_frozen BK375.out 0
          have hfz14_1 := blk_frozen BK375.out 1
          go_wp2
          refine bodyPost_ret (results_ct rfl _ _ gb375 35 #[.int .i64 0, .int .i64 0] (0, 0) _ rfl (by (with_reducible repeat (first | refine blk_drewN ?_ _ | refine blk_drew ?_ | refine blk_alloc ?_ _)); refine blk_put (cs := #[.int .i64 0, .int .i64 0]) ?_ 1 _ rfl; (with_reducible repeat (first | refine blk_drewN ?_ _ | refine blk_drew ?_ | refine blk_alloc ?_ _)); refine blk_put (cs := #[.int .i64 0, .int .i64 0]) ?_ 0 _ rfl; (with_reducible repeat (first | refine blk_drewN ?_ _ | refine blk_drew ?_ | refine blk_alloc ?_ _)); exact BK375.out) Try.underlying35 rfl (by kernel_rfl)) rfl ?_
          exact ⟨by first | rfl | (simp [errW_none, errW_some] <;> rfl) | (simp [*, errW_none, errW_some] <;> rfl), by repeat (first | (with_reducible first | exact HB.out | apply below_alloc | apply pw_below_drewN | apply below_drew1 | refine below_set ?_ GE374.out | refine below_set ?_ GE375.out) | exact HB.out)⟩
        · replace c12 := Bool.eq_false_iff.mpr c12
          subst c12
          have H1 : ((isobathref05_offset.f kj4 a0_0 a0_1 a0_2 a0_3 a0_4 a0_5 a0_6 a0_7 a1).bind fun bt378 => (if bt378.1 > bt378.2 then (some (0, 0, 5)) else (some (bt378.1, bt378.2, 0)))) = some (r1, r2, r3) := by rw [if_neg (show ¬ (false = true) by decide)] at H; exact H
          clear H
          have H := H1
          clear H1
          replace H := Option.bind_eq_some_iff.mp H
          obtain ⟨⟨t378, t379⟩, A150, H⟩ := H
          replace H : (if t378 > t379 then (some (0, 0, 5)) else (some (t378, t379, 0))) = some (r1, r2, r3) := H
          have A15 := Aside0.mk A150
          clear A150
          by_cases c16 : t378 > t379
          · rw [if_pos c16] at H
            have c16b0 : decide (t379 < t378) = true := decide_eq_true c16
            clear c16
            simp only [Option.some.injEq, Prod.mk.injEq] at H
            obtain ⟨rfl, rfl, rfl⟩ := H
            have hnb17 := NB374_375.out
            have hnc17 := NB375_374.out
            have hcz18_0 : wc.cell? ⟨gb374, 0, none⟩ = some (.int .i64 a0_0) := (blk_cell BK374.out 0).trans rfl
            have hcz18_1 : wc.cell? ⟨gb374, 1, none⟩ = some (.int .i64 a0_1) := (blk_cell BK374.out 1).trans rfl
            have hcz18_2 : wc.cell? ⟨gb374, 2, none⟩ = some (.int .i64 a0_2) := (blk_cell BK374.out 2).trans rfl
            have hcz18_3 : wc.cell? ⟨gb374, 3, none⟩ = some (.int .i64 a0_3) := (blk_cell BK374.out 3).trans rfl
            have hcz18_4 : wc.cell? ⟨gb374, 4, none⟩ = some (.int .i64 a0_4) := (blk_cell BK374.out 4).trans rfl
            have hcz18_5 : wc.cell? ⟨gb374, 5, none⟩ = some (.int .i64 a0_5) := (blk_cell BK374.out 5).trans rfl
            have hcz18_6 : wc.cell? ⟨gb374, 6, none⟩ = some (.int .i64 a0_6) := (blk_cell BK374.out 6).trans rfl
            have hcz18_7 : wc.cell? ⟨gb374, 7, none⟩ = some (.int .i64 a0_7) := (blk_cell BK374.out 7).trans rfl
            have hfz18_0 := blk_frozen BK374.out 0
            have hfz18_1 := blk_frozen BK374.out 1
            have hfz18_2 := blk_frozen BK374.out 2
            have hfz18_3 := blk_frozen BK374.out 3
            have hfz18_4 := blk_frozen BK374.out 4
            have hfz18_5 := blk_frozen BK374.out 5
            have hfz18_6 := blk_frozen BK374.out 6
            have hfz18_7 := blk_frozen BK374.out 7
            go_wp2_with (first | ((with_reducible refine gate_callee (f := 67) rfl ?_); refine goesL_ (some 22) rfl rfl Try.func67 (by kernel_rfl) rfl #[.agg #[.int .i64 a0_0, .int .i64 a0_1, .int .i64 a0_2, .int .i64 a0_3, .int .i64 a0_4, .int .i64 a0_5, .int .i64 a0_6, .int .i64 a0_7], .int .i64 a1] rfl (by (try simp only [List.map_toArray, List.map_cons, List.map_nil]); first | done | rfl | (simp only [List.length_drop, List.length_take]; rfl)) ?_; (with_reducible refine (isobathref05_offset.calls kj4 a0_0 a0_1 a0_2 a0_3 a0_4 a0_5 a0_6 a0_7 a1 t378 t379 _ A15.out).mono ?_); rintro e w19 ⟨rfl, hb⟩; refine ⟨_, rfl, ?_⟩; have n0_ := Aside0.mk (blk_below (g := gb374) (o := .cells #[.int .i64 a0_0, .int .i64 a0_1, .int .i64 a0_2, .int .i64 a0_3, .int .i64 a0_4, .int .i64 a0_5, .int .i64 a0_6, .int .i64 a0_7] 46 (0, 0)) (by (with_reducible repeat (first | refine blk_drewN ?_ _ | refine blk_drew ?_ | refine blk_alloc ?_ _)); exact BK374.out) hb); have n1_ := Aside0.mk (blk_below (g := gb375) (o := .cells #[.int .i64 0, .int .i64 0] 35 (0, 0)) (by (with_reducible repeat (first | refine blk_drewN ?_ _ | refine blk_drew ?_ | refine blk_alloc ?_ _)); exact BK375.out) hb); have n2_ := Aside0.mk (below_step (by repeat (first | (with_reducible first | exact HB.out | apply below_alloc | apply pw_below_drewN | apply below_drew1 | refine below_set ?_ GE374.out | refine below_set ?_ GE375.out) | exact HB.out)) hb); clear BK374; clear BK375; clear HB; have BK374 := n0_; have BK375 := n1_; have HB := n2_; clear n0_ n1_ n2_; (try clear hb); (try clear hb2); (try clear hk); (try clear hi)) | ((with_reducible refine gate_dst (N := 6) rfl ?_); refine box_event ?hg (N := 6) ?hd (cs := #[.int .i64 0, .int .i64 0]) (t := 35) ?hr ?_; (case hd => rfl); (case hg => rfl); (case hr => first | (go_simp; done) | (go_simp; rfl)); intro gb380 hg w20 hbox hb; have n0_ := Aside0.mk (blk_below (g := gb374) (o := .cells #[.int .i64 a0_0, .int .i64 a0_1, .int .i64 a0_2, .int .i64 a0_3, .int .i64 a0_4, .int .i64 a0_5, .int .i64 a0_6, .int .i64 a0_7] 46 (0, 0)) (by (with_reducible repeat (first | refine blk_drewN ?_ _ | refine blk_drew ?_ | refine blk_alloc ?_ _)); exact BK374.out) hb); have n1_ := Aside0.mk (blk_below (g := gb375) (o := .cells #[.int .i64 0, .int .i64 0] 35 (0, 0)) (by (with_reducible repeat (first | refine blk_drewN ?_ _ | refine blk_drew ?_ | refine blk_alloc ?_ _)); exact BK375.out) hb); have n2_ := Aside0.mk (below_step (by repeat (first | (with_reducible first | exact HB.out | apply below_alloc | apply pw_below_drewN | apply below_drew1 | refine below_set ?_ GE374.out | refine below_set ?_ GE375.out) | exact HB.out)) hb); have n3_ := Aside0.mk (hbox); have n4_ := Aside0.mk ((by rw [hg]; exact (below_size (by repeat (first | (with_reducible first | exact HB.out | apply below_alloc | apply pw_below_drewN | apply below_drew1 | refine below_set ?_ GE374.out | refine below_set ?_ GE375.out) | exact HB.out))) : w.heap.size ≤ gb380)); have n5_ := Aside0.mk ((by rw [hg]; exact (below_size (by repeat (first | (with_reducible first | exact HB.out | apply below_alloc | apply pw_below_drewN | apply below_drew1 | refine below_set ?_ GE374.out | refine below_set ?_ GE375.out) | exact HB.out))) : w.heap.size ≤ gb380)); have n6_ := Aside0.mk ((by rw [hg]; exact Nat.ne_of_lt (blk_lt (g := gb374) (o := .cells #[.int .i64 a0_0, .int .i64 a0_1, .int .i64 a0_2, .int .i64 a0_3, .int .i64 a0_4, .int .i64 a0_5, .int .i64 a0_6, .int .i64 a0_7] 46 (0, 0)) (by (with_reducible repeat (first | refine blk_drewN ?_ _ | refine blk_drew ?_ | refine blk_alloc ?_ _)); exact BK374.out)) : gb374 ≠ gb380)); have n7_ := Aside0.mk ((by rw [hg]; exact Nat.ne_of_gt (blk_lt (g := gb374) (o := .cells #[.int .i64 a0_0, .int .i64 a0_1, .int .i64 a0_2, .int .i64 a0_3, .int .i64 a0_4, .int .i64 a0_5, .int .i64 a0_6, .int .i64 a0_7] 46 (0, 0)) (by (with_reducible repeat (first | refine blk_drewN ?_ _ | refine blk_drew ?_ | refine blk_alloc ?_ _)); exact BK374.out)) : gb380 ≠ gb374)); have n8_ := Aside0.mk ((by rw [hg]; exact Nat.ne_of_lt (blk_lt (g := gb375) (o := .cells #[.int .i64 0, .int .i64 0] 35 (0, 0)) (by (with_reducible repeat (first | refine blk_drewN ?_ _ | refine blk_drew ?_ | refine blk_alloc ?_ _)); exact BK375.out)) : gb375 ≠ gb380)); have n9_ := Aside0.mk ((by rw [hg]; exact Nat.ne_of_gt (blk_lt (g := gb375) (o := .cells #[.int .i64 0, .int .i64 0] 35 (0, 0)) (by (with_reducible repeat (first | refine blk_drewN ?_ _ | refine blk_drew ?_ | refine blk_alloc ?_ _)); exact BK375.out)) : gb380 ≠ gb375)); clear BK374; clear BK375; clear HB; have BK374 := n0_; have BK375 := n1_; have HB := n2_; have BK380 := n3_; have GW380 := n4_; have GE380 := n5_; have NB374_380 := n6_; have NB380_374 := n7_; have NB375_380 := n8_; have NB380_375 := n9_; clear n0_ n1_ n2_ n3_ n4_ n5_ n6_ n7_ n8_ n9_; clear hb hbox hg; have hnb21 := NB380_374.out; have hnc21 := NB374_380.out; have hnb22 := NB380_375.out; have hnc22 := NB375_380.out; have hcz23_0 : w20.cell? ⟨gb380, 0, none⟩ = some (.int .i64 0) := (blk_cell BK380.out 0).trans rfl; have hcz23_1 : w20.cell? ⟨gb380, 1, none⟩ = some (.int .i64 0) := (blk_cell BK380.out 1).trans rfl; have hfz23_0 := blk_frozen BK380.out 0; have hfz23_1 := blk_frozen BK380.out 1; have hcz24_0 : w20.cell? ⟨gb375, 0, none⟩ = some (.int .i64 0) := (blk_cell BK375.out 0).trans rfl; have hcz24_1 : w20.cell? ⟨gb375, 1, none⟩ = some (.int .i64 0) := (blk_cell BK375.out 1).trans rfl; have hfz24_0 := blk_frozen BK375.out 0; have hfz24_1 := blk_frozen BK375.out 1))
            refine bodyPost_ret (results_ct rfl _ _ gb375 35 #[.int .i64 0, .int .i64 0] (0, 0) _ rfl (by (with_reducible repeat (first | refine blk_drewN ?_ _ | refine blk_drew ?_ | refine blk_alloc ?_ _)); refine blk_put (cs := #[.int .i64 0, .int .i64 0]) ?_ 1 _ rfl; (with_reducible repeat (first | refine blk_drewN ?_ _ | refine blk_drew ?_ | refine blk_alloc ?_ _)); refine blk_put (cs := #[.int .i64 0, .int .i64 0]) ?_ 0 _ rfl; (with_reducible repeat (first | refine blk_drewN ?_ _ | refine blk_drew ?_ | refine blk_alloc ?_ _)); refine blk_far ?_ NB375_380.out _; (with_reducible repeat (first | refine blk_drewN ?_ _ | refine blk_drew ?_ | refine blk_alloc ?_ _)); refine blk_far ?_ NB375_380.out _; (with_reducible repeat (first | refine blk_drewN ?_ _ | refine blk_drew ?_ | refine blk_alloc ?_ _)); exact BK375.out) Try.underlying35 rfl (by kernel_rfl)) rfl ?_
            exact ⟨by first | rfl | (simp [errW_none, errW_some] <;> rfl) | (simp [*, errW_none, errW_some] <;> rfl), by repeat (first | (with_reducible first | exact HB.out | apply below_alloc | apply pw_below_drewN | apply below_drew1 | refine below_set ?_ GE374.out | refine below_set ?_ GE375.out | refine below_set ?_ GE380.out) | exact HB.out)⟩
          · rw [if_neg c16] at H
            have c16b0 : decide (t379 < t378) = false := decide_eq_false c16
            clear c16
            simp only [Option.some.injEq, Prod.mk.injEq] at H
            obtain ⟨rfl, rfl, rfl⟩ := H
            have hnb25 := NB374_375.out
            have hnc25 := NB375_374.out
            have hcz26_0 : wc.cell? ⟨gb374, 0, none⟩ = some (.int .i64 a0_0) := (blk_cell BK374.out 0).trans rfl
            have hcz26_1 : wc.cell? ⟨gb374, 1, none⟩ = some (.int .i64 a0_1) := (blk_cell BK374.out 1).trans rfl
            have hcz26_2 : wc.cell? ⟨gb374, 2, none⟩ = some (.int .i64 a0_2) := (blk_cell BK374.out 2).trans rfl
            have hcz26_3 : wc.cell? ⟨gb374, 3, none⟩ = some (.int .i64 a0_3) := (blk_cell BK374.out 3).trans rfl
            have hcz26_4 : wc.cell? ⟨gb374, 4, none⟩ = some (.int .i64 a0_4) := (blk_cell BK374.out 4).trans rfl
            have hcz26_5 : wc.cell? ⟨gb374, 5, none⟩ = some (.int .i64 a0_5) := (blk_cell BK374.out 5).trans rfl
            have hcz26_6 : wc.cell? ⟨gb374, 6, none⟩ = some (.int .i64 a0_6) := (blk_cell BK374.out 6).trans rfl
            have hcz26_7 : wc.cell? ⟨gb374, 7, none⟩ = some (.int .i64 a0_7) := (blk_cell BK374.out 7).trans rfl
            have hfz26_0 := blk_frozen BK374.out 0
            have hfz26_1 := blk_frozen BK374.out 1
            have hfz26_2 := blk_frozen BK374.out 2
            have hfz26_3 := blk_frozen BK374.out 3
            have hfz26_4 := blk_frozen BK374.out 4
            have hfz26_5 := blk_frozen BK374.out 5
            have hfz26_6 := blk_frozen BK374.out 6
            have hfz26_7 := blk_frozen BK374.out 7
            go_wp2_with (first | ((with_reducible refine gate_callee (f := 67) rfl ?_); refine goesL_ (some 22) rfl rfl Try.func67 (by kernel_rfl) rfl #[.agg #[.int .i64 a0_0, .int .i64 a0_1, .int .i64 a0_2, .int .i64 a0_3, .int .i64 a0_4, .int .i64 a0_5, .int .i64 a0_6, .int .i64 a0_7], .int .i64 a1] rfl (by (try simp only [List.map_toArray, List.map_cons, List.map_nil]); first | done | rfl | (simp only [List.length_drop, List.length_take]; rfl)) ?_; (with_reducible refine (isobathref05_offset.calls kj4 a0_0 a0_1 a0_2 a0_3 a0_4 a0_5 a0_6 a0_7 a1 t378 t379 _ A15.out).mono ?_); rintro e w27 ⟨rfl, hb⟩; refine ⟨_, rfl, ?_⟩; have n0_ := Aside0.mk (blk_below (g := gb374) (o := .cells #[.int .i64 a0_0, .int .i64 a0_1, .int .i64 a0_2, .int .i64 a0_3, .int .i64 a0_4, .int .i64 a0_5, .int .i64 a0_6, .int .i64 a0_7] 46 (0, 0)) (by (with_reducible repeat (first | refine blk_drewN ?_ _ | refine blk_drew ?_ | refine blk_alloc ?_ _)); exact BK374.out) hb); have n1_ := Aside0.mk (blk_below (g := gb375) (o := .cells #[.int .i64 0, .int .i64 0] 35 (0, 0)) (by (with_reducible repeat (first | refine blk_drewN ?_ _ | refine blk_drew ?_ | refine blk_alloc ?_ _)); exact BK375.out) hb); have n2_ := Aside0.mk (below_step (by repeat (first | (with_reducible first | exact HB.out | apply below_alloc | apply pw_below_drewN | apply below_drew1 | refine below_set ?_ GE374.out | refine below_set ?_ GE375.out) | exact HB.out)) hb); clear BK374; clear BK375; clear HB; have BK374 := n0_; have BK375 := n1_; have HB := n2_; clear n0_ n1_ n2_; (try clear hb); (try clear hb2); (try clear hk); (try clear hi)) | ((with_reducible refine gate_dst (N := 6) rfl ?_); refine box_event ?hg (N := 6) ?hd (cs := #[.int .i64 0, .int .i64 0]) (t := 35) ?hr ?_; (case hd => rfl); (case hg => rfl); (case hr => first | (go_simp; done) | (go_simp; rfl)); intro gb380 hg w28 hbox hb; have n0_ := Aside0.mk (blk_below (g := gb374) (o := .cells #[.int .i64 a0_0, .int .i64 a0_1, .int .i64 a0_2, .int .i64 a0_3, .int .i64 a0_4, .int .i64 a0_5, .int .i64 a0_6, .int .i64 a0_7] 46 (0, 0)) (by (with_reducible repeat (first | refine blk_drewN ?_ _ | refine blk_drew ?_ | refine blk_alloc ?_ _)); exact BK374.out) hb); have n1_ := Aside0.mk (blk_below (g := gb375) (o := .cells #[.int .i64 0, .int .i64 0] 35 (0, 0)) (by (with_reducible repeat (first | refine blk_drewN ?_ _ | refine blk_drew ?_ | refine blk_alloc ?_ _)); exact BK375.out) hb); have n2_ := Aside0.mk (below_step (by repeat (first | (with_reducible first | exact HB.out | apply below_alloc | apply pw_below_drewN | apply below_drew1 | refine below_set ?_ GE374.out | refine below_set ?_ GE375.out) | exact HB.out)) hb); have n3_ := Aside0.mk (hbox); have n4_ := Aside0.mk ((by rw [hg]; exact (below_size (by repeat (first | (with_reducible first | exact HB.out | apply below_alloc | apply pw_below_drewN | apply below_drew1 | refine below_set ?_ GE374.out | refine below_set ?_ GE375.out) | exact HB.out))) : w.heap.size ≤ gb380)); have n5_ := Aside0.mk ((by rw [hg]; exact (below_size (by repeat (first | (with_reducible first | exact HB.out | apply below_alloc | apply pw_below_drewN | apply below_drew1 | refine below_set ?_ GE374.out | refine below_set ?_ GE375.out) | exact HB.out))) : w.heap.size ≤ gb380)); have n6_ := Aside0.mk ((by rw [hg]; exact Nat.ne_of_lt (blk_lt (g := gb374) (o := .cells #[.int .i64 a0_0, .int .i64 a0_1, .int .i64 a0_2, .int .i64 a0_3, .int .i64 a0_4, .int .i64 a0_5, .int .i64 a0_6, .int .i64 a0_7] 46 (0, 0)) (by (with_reducible repeat (first | refine blk_drewN ?_ _ | refine blk_drew ?_ | refine blk_alloc ?_ _)); exact BK374.out)) : gb374 ≠ gb380)); have n7_ := Aside0.mk ((by rw [hg]; exact Nat.ne_of_gt (blk_lt (g := gb374) (o := .cells #[.int .i64 a0_0, .int .i64 a0_1, .int .i64 a0_2, .int .i64 a0_3, .int .i64 a0_4, .int .i64 a0_5, .int .i64 a0_6, .int .i64 a0_7] 46 (0, 0)) (by (with_reducible repeat (first | refine blk_drewN ?_ _ | refine blk_drew ?_ | refine blk_alloc ?_ _)); exact BK374.out)) : gb380 ≠ gb374)); have n8_ := Aside0.mk ((by rw [hg]; exact Nat.ne_of_lt (blk_lt (g := gb375) (o := .cells #[.int .i64 0, .int .i64 0] 35 (0, 0)) (by (with_reducible repeat (first | refine blk_drewN ?_ _ | refine blk_drew ?_ | refine blk_alloc ?_ _)); exact BK375.out)) : gb375 ≠ gb380)); have n9_ := Aside0.mk ((by rw [hg]; exact Nat.ne_of_gt (blk_lt (g := gb375) (o := .cells #[.int .i64 0, .int .i64 0] 35 (0, 0)) (by (with_reducible repeat (first | refine blk_drewN ?_ _ | refine blk_drew ?_ | refine blk_alloc ?_ _)); exact BK375.out)) : gb380 ≠ gb375)); clear BK374; clear BK375; clear HB; have BK374 := n0_; have BK375 := n1_; have HB := n2_; have BK380 := n3_; have GW380 := n4_; have GE380 := n5_; have NB374_380 := n6_; have NB380_374 := n7_; have NB375_380 := n8_; have NB380_375 := n9_; clear n0_ n1_ n2_ n3_ n4_ n5_ n6_ n7_ n8_ n9_; clear hb hbox hg; have hnb29 := NB380_374.out; have hnc29 := NB374_380.out; have hnb30 := NB380_375.out; have hnc30 := NB375_380.out; have hcz31_0 : w28.cell? ⟨gb380, 0, none⟩ = some (.int .i64 0) := (blk_cell BK380.out 0).trans rfl; have hcz31_1 : w28.cell? ⟨gb380, 1, none⟩ = some (.int .i64 0) := (blk_cell BK380.out 1).trans rfl; have hfz31_0 := blk_frozen BK380.out 0; have hfz31_1 := blk_frozen BK380.out 1; have hcz32_0 : w28.cell? ⟨gb375, 0, none⟩ = some (.int .i64 0) := (blk_cell BK375.out 0).trans rfl; have hcz32_1 : w28.cell? ⟨gb375, 1, none⟩ = some (.int .i64 0) := (blk_cell BK375.out 1).trans rfl; have hfz32_0 := blk_frozen BK375.out 0; have hfz32_1 := blk_frozen BK375.out 1))
            refine bodyPost_ret (results_ct rfl _ _ gb375 35 #[.int .i64 t378, .int .i64 t379] (0, 0) _ rfl (by (with_reducible repeat (first | refine blk_drewN ?_ _ | refine blk_drew ?_ | refine blk_alloc ?_ _)); refine blk_put (cs := #[.int .i64 t378, .int .i64 0]) ?_ 1 _ rfl; (with_reducible repeat (first | refine blk_drewN ?_ _ | refine blk_drew ?_ | refine blk_alloc ?_ _)); refine blk_put (cs := #[.int .i64 0, .int .i64 0]) ?_ 0 _ rfl; (with_reducible repeat (first | refine blk_drewN ?_ _ | refine blk_drew ?_ | refine blk_alloc ?_ _)); refine blk_far ?_ NB375_380.out _; (with_reducible repeat (first | refine blk_drewN ?_ _ | refine blk_drew ?_ | refine blk_alloc ?_ _)); refine blk_far ?_ NB375_380.out _; (with_reducible repeat (first | refine blk_drewN ?_ _ | refine blk_drew ?_ | refine blk_alloc ?_ _)); exact BK375.out) Try.underlying35 rfl (by kernel_rfl)) rfl ?_
            exact ⟨by first | rfl | (simp [errW_none, errW_some] <;> rfl) | (simp [*, errW_none, errW_some] <;> rfl), by repeat (first | (with_reducible first | exact HB.out | apply below_alloc | apply pw_below_drewN | apply below_drew1 | refine below_set ?_ GE374.out | refine below_set ?_ GE375.out | refine below_set ?_ GE380.out) | exact HB.out)⟩
  · rw [if_neg c4] at H
    have c4b0 : (t376 == 0) = false := beq_eq_false_iff_ne.mpr c4
    have c4b1 : (t376 != 0) = true := bne_iff_ne.mpr c4
    replace H := Option.bind_eq_some_iff.mp H
    obtain ⟨t377, A330, H⟩ := H
    replace H : (some (0, 0, t377)) = some (r1, r2, r3) := H
    have A33 := Aside0.mk A330
    clear A330
    simp only [Option.some.injEq, Prod.mk.injEq] at H
    obtain ⟨rfl, rfl, rfl⟩ := H
    go_enter Try.func28, Try.ntmps28
    go_wp2_with (first | ((with_reducible refine gate_dst (N := 2) rfl ?_); refine box_event ?hg (N := 2) ?hd (cs := #[.int .i64 a0_0, .int .i64 a0_1, .int .i64 a0_2, .int .i64 a0_3, .int .i64 a0_4, .int .i64 a0_5, .int .i64 a0_6, .int .i64 a0_7]) (t := 46) ?hr ?_; (case hd => rfl); (case hg => rfl); (case hr => first | (go_simp; done) | (go_simp; rfl)); intro gb374 hg w34 hbox hb; have n0_ := Aside0.mk (below_step (by repeat (first | (with_reducible first | exact HB.out | apply below_alloc | apply pw_below_drewN | apply below_drew1) | exact HB.out)) hb); have n1_ := Aside0.mk (hbox); have n2_ := Aside0.mk ((by rw [hg]; exact (below_size (by repeat (first | (with_reducible first | exact HB.out | apply below_alloc | apply pw_below_drewN | apply below_drew1) | exact HB.out))) : w.heap.size ≤ gb374)); have n3_ := Aside0.mk ((by rw [hg]; exact (below_size (by repeat (first | (with_reducible first | exact HB.out | apply below_alloc | apply pw_below_drewN | apply below_drew1) | exact HB.out))) : w.heap.size ≤ gb374)); clear HB; have HB := n0_; have BK374 := n1_; have GW374 := n2_; have GE374 := n3_; clear n0_ n1_ n2_ n3_; clear hb hbox hg) | ((with_reducible refine gate_dst (N := 4) rfl ?_); refine box_event ?hg (N := 4) ?hd (cs := #[.int .i64 0, .int .i64 0]) (t := 35) ?hr ?_; (case hd => rfl); (case hg => rfl); (case hr => first | (go_simp; done) | (go_simp; rfl)); intro gb375 hg w35 hbox hb; have n0_ := Aside0.mk (blk_below (g := gb374) (o := .cells #[.int .i64 a0_0, .int .i64 a0_1, .int .i64 a0_2, .int .i64 a0_3, .int .i64 a0_4, .int .i64 a0_5, .int .i64 a0_6, .int .i64 a0_7] 46 (0, 0)) (by (with_reducible repeat (first | refine blk_drewN ?_ _ | refine blk_drew ?_ | refine blk_alloc ?_ _)); exact BK374.out) hb); have n1_ := Aside0.mk (below_step (by repeat (first | (with_reducible first | exact HB.out | apply below_alloc | apply pw_below_drewN | apply below_drew1 | refine below_set ?_ GE374.out) | exact HB.out)) hb); have n2_ := Aside0.mk (hbox); have n3_ := Aside0.mk ((by rw [hg]; exact (below_size (by repeat (first | (with_reducible first | exact HB.out | apply below_alloc | apply pw_below_drewN | apply below_drew1 | refine below_set ?_ GE374.out) | exact HB.out))) : w.heap.size ≤ gb375)); have n4_ := Aside0.mk ((by rw [hg]; exact (below_size (by repeat (first | (with_reducible first | exact HB.out | apply below_alloc | apply pw_below_drewN | apply below_drew1 | refine below_set ?_ GE374.out) | exact HB.out))) : w.heap.size ≤ gb375)); have n5_ := Aside0.mk ((by rw [hg]; exact Nat.ne_of_lt (blk_lt (g := gb374) (o := .cells #[.int .i64 a0_0, .int .i64 a0_1, .int .i64 a0_2, .int .i64 a0_3, .int .i64 a0_4, .int .i64 a0_5, .int .i64 a0_6, .int .i64 a0_7] 46 (0, 0)) (by (with_reducible repeat (first | refine blk_drewN ?_ _ | refine blk_drew ?_ | refine blk_alloc ?_ _)); exact BK374.out)) : gb374 ≠ gb375)); have n6_ := Aside0.mk ((by rw [hg]; exact Nat.ne_of_gt (blk_lt (g := gb374) (o := .cells #[.int .i64 a0_0, .int .i64 a0_1, .int .i64 a0_2, .int .i64 a0_3, .int .i64 a0_4, .int .i64 a0_5, .int .i64 a0_6, .int .i64 a0_7] 46 (0, 0)) (by (with_reducible repeat (first | refine blk_drewN ?_ _ | refine blk_drew ?_ | refine blk_alloc ?_ _)); exact BK374.out)) : gb375 ≠ gb374)); clear BK374; clear HB; have BK374 := n0_; have HB := n1_; have BK375 := n2_; have GW375 := n3_; have GE375 := n4_; have NB374_375 := n5_; have NB375_374 := n6_; clear n0_ n1_ n2_ n3_ n4_ n5_ n6_; clear hb hbox hg; have hnb36 := NB374_375.out; have hnc36 := NB375_374.out; have hcz37_0 : w35.cell? ⟨gb374, 0, none⟩ = some (.int .i64 a0_0) := (blk_cell BK374.out 0).trans rfl; have hcz37_1 : w35.cell? ⟨gb374, 1, none⟩ = some (.int .i64 a0_1) := (blk_cell BK374.out 1).trans rfl; have hcz37_2 : w35.cell? ⟨gb374, 2, none⟩ = some (.int .i64 a0_2) := (blk_cell BK374.out 2).trans rfl; have hcz37_3 : w35.cell? ⟨gb374, 3, none⟩ = some (.int .i64 a0_3) := (blk_cell BK374.out 3).trans rfl; have hcz37_4 : w35.cell? ⟨gb374, 4, none⟩ = some (.int .i64 a0_4) := (blk_cell BK374.out 4).trans rfl; have hcz37_5 : w35.cell? ⟨gb374, 5, none⟩ = some (.int .i64 a0_5) := (blk_cell BK374.out 5).trans rfl; have hcz37_6 : w35.cell? ⟨gb374, 6, none⟩ = some (.int .i64 a0_6) := (blk_cell BK374.out 6).trans rfl; have hcz37_7 : w35.cell? ⟨gb374, 7, none⟩ = some (.int .i64 a0_7) := (blk_cell BK374.out 7).trans rfl; have hfz37_0 := blk_frozen BK374.out 0; have hfz37_1 := blk_frozen BK374.out 1; have hfz37_2 := blk_frozen BK374.out 2; have hfz37_3 := blk_frozen BK374.out 3; have hfz37_4 := blk_frozen BK374.out 4; have hfz37_5 := blk_frozen BK374.out 5; have hfz37_6 := blk_frozen BK374.out 6; have hfz37_7 := blk_frozen BK374.out 7) | ((with_reducible refine gate_callee (f := 31) rfl ?_); refine goesL_ (some 8) rfl rfl Try.func31 (by kernel_rfl) rfl #[.agg #[.int .i64 a0_0, .int .i64 a0_1, .int .i64 a0_2, .int .i64 a0_3, .int .i64 a0_4, .int .i64 a0_5, .int .i64 a0_6, .int .i64 a0_7]] rfl (by (try simp only [List.map_toArray, List.map_cons, List.map_nil]); first | done | rfl | (simp only [List.length_drop, List.length_take]; rfl)) ?_; (with_reducible refine (isobathref05_CheckExchange.calls k a0_0 a0_1 a0_2 a0_3 a0_4 a0_5 a0_6 a0_7 t376 _ A3.out).mono ?_); rintro e w38 ⟨rfl, hb⟩; refine ⟨_, rfl, ?_⟩; have n0_ := Aside0.mk (blk_below (g := gb374) (o := .cells #[.int .i64 a0_0, .int .i64 a0_1, .int .i64 a0_2, .int .i64 a0_3, .int .i64 a0_4, .int .i64 a0_5, .int .i64 a0_6, .int .i64 a0_7] 46 (0, 0)) (by (with_reducible repeat (first | refine blk_drewN ?_ _ | refine blk_drew ?_ | refine blk_alloc ?_ _)); exact BK374.out) hb); have n1_ := Aside0.mk (blk_below (g := gb375) (o := .cells #[.int .i64 0, .int .i64 0] 35 (0, 0)) (by (with_reducible repeat (first | refine blk_drewN ?_ _ | refine blk_drew ?_ | refine blk_alloc ?_ _)); exact BK375.out) hb); have n2_ := Aside0.mk (below_step (by repeat (first | (with_reducible first | exact HB.out | apply below_alloc | apply pw_below_drewN | apply below_drew1 | refine below_set ?_ GE374.out | refine below_set ?_ GE375.out) | exact HB.out)) hb); clear BK374; clear BK375; clear HB; have BK374 := n0_; have BK375 := n1_; have HB := n2_; clear n0_ n1_ n2_; (try clear hb); (try clear hb2); (try clear hk); (try clear hi); have hcz39_0 : w38.cell? ⟨gb374, 0, none⟩ = some (.int .i64 a0_0) := (blk_cell BK374.out 0).trans rfl; have hcz39_1 : w38.cell? ⟨gb374, 1, none⟩ = some (.int .i64 a0_1) := (blk_cell BK374.out 1).trans rfl; have hcz39_2 : w38.cell? ⟨gb374, 2, none⟩ = some (.int .i64 a0_2) := (blk_cell BK374.out 2).trans rfl; have hcz39_3 : w38.cell? ⟨gb374, 3, none⟩ = some (.int .i64 a0_3) := (blk_cell BK374.out 3).trans rfl; have hcz39_4 : w38.cell? ⟨gb374, 4, none⟩ = some (.int .i64 a0_4) := (blk_cell BK374.out 4).trans rfl; have hcz39_5 : w38.cell? ⟨gb374, 5, none⟩ = some (.int .i64 a0_5) := (blk_cell BK374.out 5).trans rfl; have hcz39_6 : w38.cell? ⟨gb374, 6, none⟩ = some (.int .i64 a0_6) := (blk_cell BK374.out 6).trans rfl; have hcz39_7 : w38.cell? ⟨gb374, 7, none⟩ = some (.int .i64 a0_7) := (blk_cell BK374.out 7).trans rfl; have hfz39_0 := blk_frozen BK374.out 0; have hfz39_1 := blk_frozen BK374.out 1; have hfz39_2 := blk_frozen BK374.out 2; have hfz39_3 := blk_frozen BK374.out 3; have hfz39_4 := blk_frozen BK374.out 4; have hfz39_5 := blk_frozen BK374.out 5; have hfz39_6 := blk_frozen BK374.out 6; have hfz39_7 := blk_frozen BK374.out 7) | ((with_reducible refine gate_callee (f := 31) rfl ?_); refine goesL_ (some 12) rfl rfl Try.func31 (by kernel_rfl) rfl #[.agg #[.int .i64 a0_0, .int .i64 a0_1, .int .i64 a0_2, .int .i64 a0_3, .int .i64 a0_4, .int .i64 a0_5, .int .i64 a0_6, .int .i64 a0_7]] rfl (by (try simp only [List.map_toArray, List.map_cons, List.map_nil]); first | done | rfl | (simp only [List.length_drop, List.length_take]; rfl)) ?_; (with_reducible refine (isobathref05_CheckExchange.calls k a0_0 a0_1 a0_2 a0_3 a0_4 a0_5 a0_6 a0_7 t377 _ A33.out).mono ?_); rintro e w40 ⟨rfl, hb⟩; refine ⟨_, rfl, ?_⟩; have n0_ := Aside0.mk (blk_below (g := gb374) (o := .cells #[.int .i64 a0_0, .int .i64 a0_1, .int .i64 a0_2, .int .i64 a0_3, .int .i64 a0_4, .int .i64 a0_5, .int .i64 a0_6, .int .i64 a0_7] 46 (0, 0)) (by (with_reducible repeat (first | refine blk_drewN ?_ _ | refine blk_drew ?_ | refine blk_alloc ?_ _)); exact BK374.out) hb); have n1_ := Aside0.mk (blk_below (g := gb375) (o := .cells #[.int .i64 0, .int .i64 0] 35 (0, 0)) (by (with_reducible repeat (first | refine blk_drewN ?_ _ | refine blk_drew ?_ | refine blk_alloc ?_ _)); exact BK375.out) hb); have n2_ := Aside0.mk (below_step (by repeat (first | (with_reducible first | exact HB.out | apply below_alloc | apply pw_below_drewN | apply below_drew1 | refine below_set ?_ GE374.out | refine below_set ?_ GE375.out) | exact HB.out)) hb); clear BK374; clear BK375; clear HB; have BK374 := n0_; have BK375 := n1_; have HB := n2_; clear n0_ n1_ n2_; (try clear hb); (try clear hb2); (try clear hk); (try clear hi); have hcz41_0 : w40.cell? ⟨gb375, 0, none⟩ = some (.int .i64 0) := (blk_cell BK375.out 0).trans rfl; have hcz41_1 : w40.cell? ⟨gb375, 1, none⟩ = some (.int .i64 0) := (blk_cell BK375.out 1).trans rfl; have hfz41_0 := blk_frozen BK375.out 0; have hfz41_1 := blk_frozen BK375.out 1))
    refine bodyPost_ret (results_ct rfl _ _ gb375 35 #[.int .i64 0, .int .i64 0] (0, 0) _ rfl (by (with_reducible repeat (first | refine blk_drewN ?_ _ | refine blk_drew ?_ | refine blk_alloc ?_ _)); refine blk_put (cs := #[.int .i64 0, .int .i64 0]) ?_ 1 _ rfl; (with_reducible repeat (first | refine blk_drewN ?_ _ | refine blk_drew ?_ | refine blk_alloc ?_ _)); refine blk_put (cs := #[.int .i64 0, .int .i64 0]) ?_ 0 _ rfl; (with_reducible repeat (first | refine blk_drewN ?_ _ | refine blk_drew ?_ | refine blk_alloc ?_ _)); exact BK375.out) Try.underlying35 rfl (by kernel_rfl)) rfl ?_
    exact ⟨by first | rfl | (simp [errW_none, errW_some] <;> rfl) | (simp [*, errW_none, errW_some] <;> rfl), by repeat (first | (with_reducible first | exact HB.out | apply below_alloc | apply pw_below_drewN | apply below_drew1 | refine below_set ?_ GE374.out | refine below_set ?_ GE375.out) | exact HB.out)⟩

end Go.Proofs.Ytcjdhajdoikojaa.Pr
end
