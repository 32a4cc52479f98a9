/- Part 3 of the proof of ClockMore: what the functions compute. No condition. -/
import Derived.Test.YtcjdhajdoikojaaDmClockMore2
import Derived.Test.YtcjdhajdoikojaaDmClockMore1
section
/- Whether two anchors contradict each other, as the program computes it. -/
namespace Go.Proofs.Ytcjdhajdoikojaa.Clk
open Go.RowKit Go.Shelf Go.Proofs.YtcjdhajdoikojaaW.PrintWords Go.Proofs.YtcjdhajdoikojaaW.PrintLast Go.Proofs.YtcjdhajdoikojaaW.PrintMore Go.Proofs.Ytcjdhajdoikojaa.Pr Go.Proofs.YtcjdhajdoikojaaW.Round
set_option linter.unusedVariables false
set_option linter.unusedSimpArgs false

/-- Two pairs are equal just if both numbers are. -/
theorem eqPair (d : Nat) (w : World) (x0 x1 y0 y1 : Int) : (Op.equalIn (d + 2) 81 (.agg #[.int .i64 x0, .int .i64 x1]) (.agg #[.int .i64 y0, .int .i64 y1])).run Try.prog w = .ok (x0 == y0 && (x1 == y1)) w := by
  have hu81 := Try.underlying81
  have hu3 := Try.underlying3
  have he : ∀ (a b : Int) (W : World), (Op.equalIn (d + 1) 3 (.int .i64 a) (.int .i64 b)).run Try.prog W = .ok (a == b) W := by
    intro a b W
    unfold Op.equalIn
    go_simp
  unfold Op.equalIn
  go_simp
  simp only [show List.range' 0 2 = [0, 1] from rfl, List.forIn_cons, List.forIn_nil]
  go_simp
  by_cases h0 : x0 = y0
  · subst h0
    by_cases h1 : x1 = y1
    · subst h1
      simp
      try go_simp
    · have h1' : (x1 == y1) = false := by simp [h1]
      simp [h1']
      go_simp
      try exact h1
  · have h0' : (x0 == y0) = false := by simp [h0]
    simp [h0']
    go_simp
    try exact fun e => absurd e h0
attribute [local go_sem high] eqPair
/-- Do the anchors i and k contradict each other? -/
def conI (rate : Int) (ys : List S105) (i k : Int) : Bool :=
  if i = k then false else !decide ((meetF [seenI rate (rd_T105 ys i) (rd_T105 ys k).f1, (rd_T105 ys k).f0]).1 ≤ (meetF [seenI rate (rd_T105 ys i) (rd_T105 ys k).f1, (rd_T105 ys k).f0]).2)

set_option maxRecDepth 100000 in
set_option maxHeartbeats 8000000 in
theorem con_any (b : Nat) (par rate : Int) (ys : List S105) (i k : Int) (h0 : 0 ≤ i) (h1 : i < (ys.length : Int)) (h2 : 0 ≤ k) (h3 : k < (ys.length : Int)) (hne : i ≠ k) (w : World) (hF : FaceAt w b par rate ys) :
    Calls Try.prog 76 #[.pointer (some ⟨b, 0, none⟩), .agg #[.int .i64 i, .int .i64 k]] w fun e w' => e = .returned (.bool (conI rate ys i k)) ∧ Below w.heap.size w w' := by
  have hu81 := Try.underlying81
  have hu35 := Try.underlying35
  have hu105 := Try.underlying105
  have hu109 := Try.underlying109
  have hki : (k == i) = false := beq_eq_false_iff_ne.mpr (fun e => hne e.symm)
  have hF0 := hF
  obtain ⟨A, c, mf, hlc, hC⟩ := hF
  obtain ⟨ad, rfl, hx0, hx1, hx2⟩ := at_T105 hC i h0 h1
  obtain ⟨ad_, e_, hy0, hy1, hy2⟩ := at_T105 hC k h2 h3
  cases e_
  have hcon : conI rate ys i k = !decide ((meetF [seenI rate (rd_T105 ys i) (rd_T105 ys k).f1, (rd_T105 ys k).f0]).1 ≤ (meetF [seenI rate (rd_T105 ys i) (rd_T105 ys k).f1, (rd_T105 ys k).f0]).2) := by unfold conI; rw [if_neg hne]
  have HC := Lib.hid hcon
  clear hcon hne hlc
  generalize rd_T105 ys i = Ai at hx0 hx1 hx2 HC
  generalize rd_T105 ys k = Ak at hy0 hy1 hy2 HC
  replace h0 := eq_true h0
  replace h1 := eq_true h1
  replace h2 := eq_true h2
  replace h3 := eq_true h3
  go_enter Try.func76, Try.ntmps76
  go_wp2
  have hl_f := blk_lt mf
  have m3 : Blk (w.alloc (.cells #[.int .i64 i, .int .i64 k] 81)) (w.heap.size) #[.int .i64 i, .int .i64 k] 81 := (by have h_ := blk_new w (.cells #[.int .i64 i, .int .i64 k] 81); first | exact h_ | (simp only [World.size_alloc] at h_; exact h_))
  replace mf : Blk (w.alloc (.cells #[.int .i64 i, .int .i64 k] 81)) b #[.int .i64 par, .int .i64 rate, .slice (some ad) ys.length c] 109 := (blk_alloc mf _)
  have mB : Below w.heap.size w (w.alloc (.cells #[.int .i64 i, .int .i64 k] 81)) := (below_alloc (Below.refl w.heap.size w) _)
  have hsz_ : w.heap.size ≤ w.heap.size := Nat.le_refl _
  generalize hW_ : (w.alloc (.cells #[.int .i64 i, .int .i64 k] 81)) = W1 at mf m3 mB ⊢
  clear hW_
  generalize hg3 : w.heap.size = g3 at m3 ⊢
  have hn_f_3 : b ≠ g3 := by omega
  have hn_3_f : g3 ≠ b := hn_f_3.symm
  have hG3 : w.heap.size ≤ g3 := by omega
  clear hsz_ hl_f
  try clear hg3
  have hs_W1 : w.heap.size ≤ W1.heap.size := mB.size
  replace mf := blk_drew mf
  replace m3 := blk_drew m3
  replace mB := below_drew1 mB
  refine start_ (n := 20) (S := fun w' => w'.cell? ⟨b, 0, none⟩ = some (.int .i64 par) ∧ w'.cell? ⟨b, 1, none⟩ = some (.int .i64 rate) ∧ w'.cell? ⟨b, 2, none⟩ = some (.slice (some ad) ys.length c) ∧ w'.cell? ⟨g3, 0, none⟩ = some (.int .i64 i) ∧ w'.cell? ⟨g3, 1, none⟩ = some (.int .i64 k) ∧ w'.cell? (ad.add (i.toNat * 3)) = some (.int .i64 Ai.f0.f0) ∧ w'.cell? ⟨(ad.add (i.toNat * 3)).block, (ad.add (i.toNat * 3)).off + 1, none⟩ = some (.int .i64 Ai.f0.f1) ∧ w'.cell? ⟨(ad.add (i.toNat * 3)).block, (ad.add (i.toNat * 3)).off + 2, none⟩ = some (.int .i64 Ai.f1) ∧ w'.cell? (ad.add (k.toNat * 3)) = some (.int .i64 Ak.f0.f0) ∧ w'.cell? ⟨(ad.add (k.toNat * 3)).block, (ad.add (k.toNat * 3)).off + 1, none⟩ = some (.int .i64 Ak.f0.f1) ∧ w'.cell? ⟨(ad.add (k.toNat * 3)).block, (ad.add (k.toNat * 3)).off + 2, none⟩ = some (.int .i64 Ak.f1)) (ds := []) #[false, false, false, false, false, false, false, false, false, false, false, false, false, false, false, false, false, false, false, false] (by kernel_rfl) rfl rfl ⟨((blk_cell mf 0).trans rfl), ((blk_cell mf 1).trans rfl), ((blk_cell mf 2).trans rfl), ((blk_cell m3 0).trans rfl), ((blk_cell m3 1).trans rfl), ((mB.cell (World.block_lt_of_cell? w _ hx0)).trans hx0), ((mB.cell (World.block_lt_of_cell? w _ hx1)).trans hx1), ((mB.cell (World.block_lt_of_cell? w _ hx2)).trans hx2), ((mB.cell (World.block_lt_of_cell? w _ hy0)).trans hy0), ((mB.cell (World.block_lt_of_cell? w _ hy1)).trans hy1), ((mB.cell (World.block_lt_of_cell? w _ hy2)).trans hy2)⟩ (fun hHeld => ?_)
  generalize hWd : World.drew _ = Wd at *
  clear hWd
  refine pure_ (i := 0) (N := some 16) (v := ?_) (a' := ?_) #[true, false, false, false, false, false, false, false, false, false, false, false, false, false, false, false, false, false, false, false] rfl rfl (by kernel_rfl) (fun _ _ _ h => h) (Or.inl ⟨by rfl, ?_⟩) ?_ ?_
  rotate_left
  · intro w'
    go_simp
    with_reducible rfl
  rotate_left
  · simp only [Act.put, List.setIfInBounds_toArray, List.set_cons_zero, List.set_cons_succ, i64_w, i32_w]
    rfl
  refine pure_ (i := 1) (N := some 17) (v := ?_) (a' := ?_) #[true, true, false, false, false, false, false, false, false, false, false, false, false, false, false, false, false, false, false, false] rfl rfl (by kernel_rfl) (fun _ _ _ h => h) (Or.inl ⟨by rfl, ?_⟩) ?_ ?_
  rotate_left
  · intro w'
    go_simp
    with_reducible rfl
  rotate_left
  · simp only [Act.put, List.setIfInBounds_toArray, List.set_cons_zero, List.set_cons_succ, i64_w, i32_w]
    rfl
  refine pure_ (i := 2) (N := some 18) (v := ?_) (a' := ?_) #[true, true, true, false, false, false, false, false, false, false, false, false, false, false, false, false, false, false, false, false] rfl rfl (by kernel_rfl) (fun _ _ _ h => h) (Or.inl ⟨by rfl, ?_⟩) ?_ ?_
  rotate_left
  · intro w'
    go_simp
    with_reducible rfl
  rotate_left
  · simp only [Act.put, List.setIfInBounds_toArray, List.set_cons_zero, List.set_cons_succ, i64_w, i32_w]
    rfl
  refine pure_ (i := 4) (N := some 20) (v := ?_) (a' := ?_) #[true, true, true, false, true, false, false, false, false, false, false, false, false, false, false, false, false, false, false, false] rfl rfl (by kernel_rfl) (fun _ _ _ h => h) (Or.inl ⟨by rfl, ?_⟩) ?_ ?_
  rotate_left
  · intro w'
    go_simp
    with_reducible rfl
  rotate_left
  · simp only [Act.put, List.setIfInBounds_toArray, List.set_cons_zero, List.set_cons_succ, i64_w, i32_w]
    rfl
  refine pure_ (i := 8) (N := some 24) (v := ?_) (a' := ?_) #[true, true, true, false, true, false, false, false, true, false, false, false, false, false, false, false, false, false, false, false] rfl rfl (by kernel_rfl) (fun _ _ _ h => h) (Or.inl ⟨by rfl, ?_⟩) ?_ ?_
  rotate_left
  · intro w'
    go_simp
    with_reducible rfl
  rotate_left
  · simp only [Act.put, List.setIfInBounds_toArray, List.set_cons_zero, List.set_cons_succ, i64_w, i32_w]
    rfl
  refine pure_ (i := 9) (N := some 25) (v := ?_) (a' := ?_) #[true, true, true, false, true, false, false, false, true, true, false, false, false, false, false, false, false, false, false, false] rfl rfl (by kernel_rfl) (fun _ _ _ h => h) (Or.inl ⟨by rfl, ?_⟩) ?_ ?_
  rotate_left
  · intro w'
    go_simp
    with_reducible rfl
  rotate_left
  · simp only [Act.put, List.setIfInBounds_toArray, List.set_cons_zero, List.set_cons_succ, i64_w, i32_w]
    rfl
  refine pure_ (i := 10) (N := some 26) (v := ?_) (a' := ?_) #[true, true, true, false, true, false, false, false, true, true, true, false, false, false, false, false, false, false, false, false] rfl rfl (by kernel_rfl) (fun _ _ _ h => h) (Or.inl ⟨by rfl, ?_⟩) ?_ ?_
  rotate_left
  · intro w'
    go_simp
    with_reducible rfl
  rotate_left
  · simp only [Act.put, List.setIfInBounds_toArray, List.set_cons_zero, List.set_cons_succ, i64_w, i32_w]
    rfl
  refine pure_ (i := 12) (N := some 28) (v := ?_) (a' := ?_) #[true, true, true, false, true, false, false, false, true, true, true, false, true, false, false, false, false, false, false, false] rfl rfl (by kernel_rfl) (fun _ _ _ h => h) (Or.inl ⟨by rfl, ?_⟩) ?_ ?_
  rotate_left
  · intro w'
    go_simp
    with_reducible rfl
  rotate_left
  · simp only [Act.put, List.setIfInBounds_toArray, List.set_cons_zero, List.set_cons_succ, i64_w, i32_w]
    rfl
  refine take_ (i := 3) (N := some 19) (v := ?_) (a' := ?_) #[true, true, true, true, true, false, false, false, true, true, true, false, true, false, false, false, false, false, false, false] rfl rfl (by kernel_rfl) (fun _ _ _ h => h) (Or.inl ⟨by rfl, ?_⟩) hHeld ?_ ?_
  rotate_left
  · rintro w' ⟨s0, s1, s2, s3, s4, s5, s6, s7, s8, s9, s10⟩
    go_simp
    with_reducible rfl
  rotate_left
  · simp only [Act.put, List.setIfInBounds_toArray, List.set_cons_zero, List.set_cons_succ, i64_w, i32_w]
    rfl
  refine take_ (i := 5) (N := some 21) (v := ?_) (a' := ?_) #[true, true, true, true, true, true, false, false, true, true, true, false, true, false, false, false, false, false, false, false] rfl rfl (by kernel_rfl) (fun _ _ _ h => h) (Or.inl ⟨by rfl, ?_⟩) hHeld ?_ ?_
  rotate_left
  · rintro w' ⟨s0, s1, s2, s3, s4, s5, s6, s7, s8, s9, s10⟩
    go_simp
    with_reducible rfl
  rotate_left
  · simp only [Act.put, List.setIfInBounds_toArray, List.set_cons_zero, List.set_cons_succ, i64_w, i32_w]
    rfl
  refine pure_ (i := 6) (N := some 22) (v := ?_) (a' := ?_) #[true, true, true, true, true, true, true, false, true, true, true, false, true, false, false, false, false, false, false, false] rfl rfl (by kernel_rfl) (fun _ _ _ h => h) (Or.inl ⟨by rfl, ?_⟩) ?_ ?_
  rotate_left
  · intro w'
    go_simp
    with_reducible rfl
  rotate_left
  · simp only [Act.put, List.setIfInBounds_toArray, List.set_cons_zero, List.set_cons_succ, i64_w, i32_w]
    rfl
  refine take_ (i := 7) (N := some 23) (v := ?_) (a' := ?_) #[true, true, true, true, true, true, true, true, true, true, true, false, true, false, false, false, false, false, false, false] rfl rfl (by kernel_rfl) (fun _ _ _ h => h) (Or.inl ⟨by rfl, ?_⟩) hHeld ?_ ?_
  rotate_left
  · rintro w' ⟨s0, s1, s2, s3, s4, s5, s6, s7, s8, s9, s10⟩
    go_simp
    with_reducible rfl
  rotate_left
  · simp only [Act.put, List.setIfInBounds_toArray, List.set_cons_zero, List.set_cons_succ, i64_w, i32_w]
    rfl
  refine take_ (i := 11) (N := some 27) (v := ?_) (a' := ?_) #[true, true, true, true, true, true, true, true, true, true, true, true, true, false, false, false, false, false, false, false] rfl rfl (by kernel_rfl) (fun _ _ _ h => h) (Or.inl ⟨by rfl, ?_⟩) hHeld ?_ ?_
  rotate_left
  · rintro w' ⟨s0, s1, s2, s3, s4, s5, s6, s7, s8, s9, s10⟩
    go_simp
    with_reducible rfl
  rotate_left
  · simp only [Act.put, List.setIfInBounds_toArray, List.set_cons_zero, List.set_cons_succ, i64_w, i32_w]
    rfl
  refine take_ (i := 13) (N := some 29) (v := ?_) (a' := ?_) #[true, true, true, true, true, true, true, true, true, true, true, true, true, true, false, false, false, false, false, false] rfl rfl (by kernel_rfl) (fun _ _ _ h => h) (Or.inl ⟨by rfl, ?_⟩) hHeld ?_ ?_
  rotate_left
  · rintro w' ⟨s0, s1, s2, s3, s4, s5, s6, s7, s8, s9, s10⟩
    go_simp
    with_reducible rfl
  rotate_left
  · simp only [Act.put, List.setIfInBounds_toArray, List.set_cons_zero, List.set_cons_succ, i64_w, i32_w]
    rfl
  refine pure_ (i := 14) (N := some 30) (v := ?_) (a' := ?_) #[true, true, true, true, true, true, true, true, true, true, true, true, true, true, true, false, false, false, false, false] rfl rfl (by kernel_rfl) (fun _ _ _ h => h) (Or.inl ⟨by rfl, ?_⟩) ?_ ?_
  rotate_left
  · intro w'
    go_simp
    with_reducible rfl
  rotate_left
  · simp only [Act.put, List.setIfInBounds_toArray, List.set_cons_zero, List.set_cons_succ, i64_w, i32_w]
    rfl
  refine take_ (i := 15) (N := some 31) (v := ?_) (a' := ?_) #[true, true, true, true, true, true, true, true, true, true, true, true, true, true, true, true, false, false, false, false] rfl rfl (by kernel_rfl) (fun _ _ _ h => h) (Or.inl ⟨by rfl, ?_⟩) hHeld ?_ ?_
  rotate_left
  · rintro w' ⟨s0, s1, s2, s3, s4, s5, s6, s7, s8, s9, s10⟩
    go_simp
    with_reducible rfl
  rotate_left
  · simp only [Act.put, List.setIfInBounds_toArray, List.set_cons_zero, List.set_cons_succ, i64_w, i32_w]
    rfl
  refine join_ (σ := Nat × Nat) 2 #[true, true, true, true, true, true, true, true, true, true, true, true, true, true, true, true, true, true, false, false] (fun s => [(5, .pointer (some ⟨s.1, 0, none⟩)), (6, .pointer (some ⟨s.2, 0, none⟩))]) (fun s w' => Blk w' b #[.int .i64 par, .int .i64 rate, .slice (some ad) ys.length c] 109 ∧ Blk w' g3 #[.int .i64 i, .int .i64 k] 81 ∧ Blk w' (s.1) #[.int .i64 0, .int .i64 0, .int .i64 0] 105 ∧ Blk w' (s.2) #[.int .i64 0, .int .i64 0, .int .i64 0] 105 ∧ Below w.heap.size w w' ∧ w.heap.size ≤ s.1 ∧ w.heap.size ≤ s.2 ∧ b ≠ s.1 ∧ g3 ≠ s.1 ∧ b ≠ s.2 ∧ g3 ≠ s.2 ∧ s.1 ≠ s.2) ?_ ?_
  rotate_left
  · intro hCont
    refine two_ (i := 16) (j := 17) (Ni := some 5) (Nj := some 6) #[true, true, true, true, true, true, true, true, true, true, true, true, true, true, true, true, true, false, false, false] #[true, true, true, true, true, true, true, true, true, true, true, true, true, true, true, true, false, true, false, false] rfl rfl rfl rfl (by kernel_rfl) (by decide) (by decide) (fun K hK => ?_) (fun K hK => ?_)
    · skip
      have hn_f_5 : b ≠ Wd.heap.size := by have h_ := blk_lt mf; omega
      have hn_3_5 : g3 ≠ Wd.heap.size := by have h_ := blk_lt m3; omega
      have hG5 : w.heap.size ≤ Wd.heap.size := by have h_ := mB.size; omega
      replace mf := blk_alloc mf (.cells #[.int .i64 0, .int .i64 0, .int .i64 0] 105)
      replace m3 := blk_alloc m3 (.cells #[.int .i64 0, .int .i64 0, .int .i64 0] 105)
      have m5 : Blk (Wd.alloc (.cells #[.int .i64 0, .int .i64 0, .int .i64 0] 105)) (Wd.heap.size) #[.int .i64 0, .int .i64 0, .int .i64 0] 105 := by have h_ := blk_new Wd (.cells #[.int .i64 0, .int .i64 0, .int .i64 0] 105); first | exact h_ | (simp only [World.size_alloc] at h_; exact h_)
      replace mB := below_alloc mB (.cells #[.int .i64 0, .int .i64 0, .int .i64 0] 105)
      refine value_ (w1 := ?_) (v := ?_) (by rfl) rfl ?_ ?_
      rotate_left 2
      · go_simp
        constructor
        · rfl
        · rfl
      refine hK.out _ _ ⟨((blk_cell mf 0).trans rfl), ((blk_cell mf 1).trans rfl), ((blk_cell mf 2).trans rfl), ((blk_cell m3 0).trans rfl), ((blk_cell m3 1).trans rfl), ((mB.cell (World.block_lt_of_cell? w _ hx0)).trans hx0), ((mB.cell (World.block_lt_of_cell? w _ hx1)).trans hx1), ((mB.cell (World.block_lt_of_cell? w _ hx2)).trans hx2), ((mB.cell (World.block_lt_of_cell? w _ hy0)).trans hy0), ((mB.cell (World.block_lt_of_cell? w _ hy1)).trans hy1), ((mB.cell (World.block_lt_of_cell? w _ hy2)).trans hy2)⟩ (fun hHeld => ?_)
      clear hK K
      refine norm_ (a' := ?_) ?_ ?_
      rotate_left
      · show Act.put _ (some 5) _ = _
        simp only [Act.put, List.setIfInBounds_toArray, List.set_cons_zero, List.set_cons_succ, i64_w, i32_w]
        rfl
      refine one_ (i := 17) (N := some 6) #[true, true, true, true, true, true, true, true, true, true, true, true, true, true, true, true, true, true, false, false] rfl rfl (by kernel_rfl) (by decide) (fun K hK => ?_)
      have hn_f_6 : b ≠ Wd.heap.size + 1 := by have h_ := blk_lt mf; simp only [World.size_alloc] at h_; omega
      have hn_3_6 : g3 ≠ Wd.heap.size + 1 := by have h_ := blk_lt m3; simp only [World.size_alloc] at h_; omega
      have hn_5_6 : Wd.heap.size ≠ Wd.heap.size + 1 := by have h_ := blk_lt m5; simp only [World.size_alloc] at h_; omega
      have hG6 : w.heap.size ≤ Wd.heap.size + 1 := by have h_ := mB.size; simp only [World.size_alloc] at h_; omega
      replace mf := blk_alloc mf (.cells #[.int .i64 0, .int .i64 0, .int .i64 0] 105)
      replace m3 := blk_alloc m3 (.cells #[.int .i64 0, .int .i64 0, .int .i64 0] 105)
      replace m5 := blk_alloc m5 (.cells #[.int .i64 0, .int .i64 0, .int .i64 0] 105)
      have m6 : Blk ((Wd.alloc (.cells #[.int .i64 0, .int .i64 0, .int .i64 0] 105)).alloc (.cells #[.int .i64 0, .int .i64 0, .int .i64 0] 105)) (Wd.heap.size + 1) #[.int .i64 0, .int .i64 0, .int .i64 0] 105 := by have h_ := blk_new (Wd.alloc (.cells #[.int .i64 0, .int .i64 0, .int .i64 0] 105)) (.cells #[.int .i64 0, .int .i64 0, .int .i64 0] 105); first | exact h_ | (simp only [World.size_alloc] at h_; exact h_)
      replace mB := below_alloc mB (.cells #[.int .i64 0, .int .i64 0, .int .i64 0] 105)
      refine value_ (w1 := ?_) (v := ?_) (by rfl) rfl ?_ ?_
      rotate_left 2
      · go_simp
        constructor
        · rfl
        · rfl
      refine hK.out _ _ ⟨((blk_cell mf 0).trans rfl), ((blk_cell mf 1).trans rfl), ((blk_cell mf 2).trans rfl), ((blk_cell m3 0).trans rfl), ((blk_cell m3 1).trans rfl), ((mB.cell (World.block_lt_of_cell? w _ hx0)).trans hx0), ((mB.cell (World.block_lt_of_cell? w _ hx1)).trans hx1), ((mB.cell (World.block_lt_of_cell? w _ hx2)).trans hx2), ((mB.cell (World.block_lt_of_cell? w _ hy0)).trans hy0), ((mB.cell (World.block_lt_of_cell? w _ hy1)).trans hy1), ((mB.cell (World.block_lt_of_cell? w _ hy2)).trans hy2)⟩ (fun hHeld => ?_)
      clear hK K
      refine norm_ (a' := ?_) ?_ ?_
      rotate_left
      · show Act.put _ (some 6) _ = _
        simp only [Act.put, List.setIfInBounds_toArray, List.set_cons_zero, List.set_cons_succ, i64_w, i32_w]
        rfl
      exact norm_ (by first | (simp only [putAll, Act.put, List.setIfInBounds_toArray, List.set_cons_zero, List.set_cons_succ]; done) | (simp only [putAll, Act.put, List.setIfInBounds_toArray, List.set_cons_zero, List.set_cons_succ]; rfl)) (hCont ((Wd.heap.size, Wd.heap.size + 1)) _ ⟨mf, m3, m5, m6, mB, hG5, hG6, hn_f_5, hn_3_5, hn_f_6, hn_3_6, hn_5_6⟩)
    · skip
      have hn_f_6 : b ≠ Wd.heap.size := by have h_ := blk_lt mf; omega
      have hn_3_6 : g3 ≠ Wd.heap.size := by have h_ := blk_lt m3; omega
      have hG6 : w.heap.size ≤ Wd.heap.size := by have h_ := mB.size; omega
      replace mf := blk_alloc mf (.cells #[.int .i64 0, .int .i64 0, .int .i64 0] 105)
      replace m3 := blk_alloc m3 (.cells #[.int .i64 0, .int .i64 0, .int .i64 0] 105)
      have m6 : Blk (Wd.alloc (.cells #[.int .i64 0, .int .i64 0, .int .i64 0] 105)) (Wd.heap.size) #[.int .i64 0, .int .i64 0, .int .i64 0] 105 := by have h_ := blk_new Wd (.cells #[.int .i64 0, .int .i64 0, .int .i64 0] 105); first | exact h_ | (simp only [World.size_alloc] at h_; exact h_)
      replace mB := below_alloc mB (.cells #[.int .i64 0, .int .i64 0, .int .i64 0] 105)
      refine value_ (w1 := ?_) (v := ?_) (by rfl) rfl ?_ ?_
      rotate_left 2
      · go_simp
        constructor
        · rfl
        · rfl
      refine hK.out _ _ ⟨((blk_cell mf 0).trans rfl), ((blk_cell mf 1).trans rfl), ((blk_cell mf 2).trans rfl), ((blk_cell m3 0).trans rfl), ((blk_cell m3 1).trans rfl), ((mB.cell (World.block_lt_of_cell? w _ hx0)).trans hx0), ((mB.cell (World.block_lt_of_cell? w _ hx1)).trans hx1), ((mB.cell (World.block_lt_of_cell? w _ hx2)).trans hx2), ((mB.cell (World.block_lt_of_cell? w _ hy0)).trans hy0), ((mB.cell (World.block_lt_of_cell? w _ hy1)).trans hy1), ((mB.cell (World.block_lt_of_cell? w _ hy2)).trans hy2)⟩ (fun hHeld => ?_)
      clear hK K
      refine norm_ (a' := ?_) ?_ ?_
      rotate_left
      · show Act.put _ (some 6) _ = _
        simp only [Act.put, List.setIfInBounds_toArray, List.set_cons_zero, List.set_cons_succ, i64_w, i32_w]
        rfl
      refine one_ (i := 16) (N := some 5) #[true, true, true, true, true, true, true, true, true, true, true, true, true, true, true, true, true, true, false, false] rfl rfl (by kernel_rfl) (by decide) (fun K hK => ?_)
      have hn_f_5 : b ≠ Wd.heap.size + 1 := by have h_ := blk_lt mf; simp only [World.size_alloc] at h_; omega
      have hn_3_5 : g3 ≠ Wd.heap.size + 1 := by have h_ := blk_lt m3; simp only [World.size_alloc] at h_; omega
      have hn_6_5 : Wd.heap.size ≠ Wd.heap.size + 1 := by have h_ := blk_lt m6; simp only [World.size_alloc] at h_; omega
      have hG5 : w.heap.size ≤ Wd.heap.size + 1 := by have h_ := mB.size; simp only [World.size_alloc] at h_; omega
      replace mf := blk_alloc mf (.cells #[.int .i64 0, .int .i64 0, .int .i64 0] 105)
      replace m3 := blk_alloc m3 (.cells #[.int .i64 0, .int .i64 0, .int .i64 0] 105)
      replace m6 := blk_alloc m6 (.cells #[.int .i64 0, .int .i64 0, .int .i64 0] 105)
      have m5 : Blk ((Wd.alloc (.cells #[.int .i64 0, .int .i64 0, .int .i64 0] 105)).alloc (.cells #[.int .i64 0, .int .i64 0, .int .i64 0] 105)) (Wd.heap.size + 1) #[.int .i64 0, .int .i64 0, .int .i64 0] 105 := by have h_ := blk_new (Wd.alloc (.cells #[.int .i64 0, .int .i64 0, .int .i64 0] 105)) (.cells #[.int .i64 0, .int .i64 0, .int .i64 0] 105); first | exact h_ | (simp only [World.size_alloc] at h_; exact h_)
      replace mB := below_alloc mB (.cells #[.int .i64 0, .int .i64 0, .int .i64 0] 105)
      refine value_ (w1 := ?_) (v := ?_) (by rfl) rfl ?_ ?_
      rotate_left 2
      · go_simp
        constructor
        · rfl
        · rfl
      refine hK.out _ _ ⟨((blk_cell mf 0).trans rfl), ((blk_cell mf 1).trans rfl), ((blk_cell mf 2).trans rfl), ((blk_cell m3 0).trans rfl), ((blk_cell m3 1).trans rfl), ((mB.cell (World.block_lt_of_cell? w _ hx0)).trans hx0), ((mB.cell (World.block_lt_of_cell? w _ hx1)).trans hx1), ((mB.cell (World.block_lt_of_cell? w _ hx2)).trans hx2), ((mB.cell (World.block_lt_of_cell? w _ hy0)).trans hy0), ((mB.cell (World.block_lt_of_cell? w _ hy1)).trans hy1), ((mB.cell (World.block_lt_of_cell? w _ hy2)).trans hy2)⟩ (fun hHeld => ?_)
      clear hK K
      refine norm_ (a' := ?_) ?_ ?_
      rotate_left
      · show Act.put _ (some 5) _ = _
        simp only [Act.put, List.setIfInBounds_toArray, List.set_cons_zero, List.set_cons_succ, i64_w, i32_w]
        rfl
      exact norm_ (by first | (simp only [putAll, Act.put, List.setIfInBounds_toArray, List.set_cons_zero, List.set_cons_succ]; done) | (simp only [putAll, Act.put, List.setIfInBounds_toArray, List.set_cons_zero, List.set_cons_succ]; rfl)) (hCont ((Wd.heap.size + 1, Wd.heap.size)) _ ⟨mf, m3, m5, m6, mB, hG5, hG6, hn_f_5, hn_3_5, hn_f_6, hn_3_6, hn_6_5.symm⟩)
  rintro ⟨g5, g6⟩ Wf ⟨mf, m3, m5, m6, mB, hG5, hG6, hn_f_5, hn_3_5, hn_f_6, hn_3_6, hn_5_6⟩
  dsimp only at mf m3 m5 m6 mB hG5 hG6 hn_f_5 hn_3_5 hn_f_6 hn_3_6 hn_5_6
  have hHeld : (Wf.cell? ⟨b, 0, none⟩ = some (.int .i64 par) ∧ Wf.cell? ⟨b, 1, none⟩ = some (.int .i64 rate) ∧ Wf.cell? ⟨b, 2, none⟩ = some (.slice (some ad) ys.length c) ∧ Wf.cell? ⟨g3, 0, none⟩ = some (.int .i64 i) ∧ Wf.cell? ⟨g3, 1, none⟩ = some (.int .i64 k) ∧ Wf.cell? (ad.add (i.toNat * 3)) = some (.int .i64 Ai.f0.f0) ∧ Wf.cell? ⟨(ad.add (i.toNat * 3)).block, (ad.add (i.toNat * 3)).off + 1, none⟩ = some (.int .i64 Ai.f0.f1) ∧ Wf.cell? ⟨(ad.add (i.toNat * 3)).block, (ad.add (i.toNat * 3)).off + 2, none⟩ = some (.int .i64 Ai.f1) ∧ Wf.cell? (ad.add (k.toNat * 3)) = some (.int .i64 Ak.f0.f0) ∧ Wf.cell? ⟨(ad.add (k.toNat * 3)).block, (ad.add (k.toNat * 3)).off + 1, none⟩ = some (.int .i64 Ak.f0.f1) ∧ Wf.cell? ⟨(ad.add (k.toNat * 3)).block, (ad.add (k.toNat * 3)).off + 2, none⟩ = some (.int .i64 Ak.f1)) := ⟨((blk_cell mf 0).trans rfl), ((blk_cell mf 1).trans rfl), ((blk_cell mf 2).trans rfl), ((blk_cell m3 0).trans rfl), ((blk_cell m3 1).trans rfl), ((mB.cell (World.block_lt_of_cell? w _ hx0)).trans hx0), ((mB.cell (World.block_lt_of_cell? w _ hx1)).trans hx1), ((mB.cell (World.block_lt_of_cell? w _ hx2)).trans hx2), ((mB.cell (World.block_lt_of_cell? w _ hy0)).trans hy0), ((mB.cell (World.block_lt_of_cell? w _ hy1)).trans hy1), ((mB.cell (World.block_lt_of_cell? w _ hy2)).trans hy2)⟩
  refine norm_ (a' := ?_) ?_ ?_
  rotate_left
  · simp only [putAll, Act.put, List.setIfInBounds_toArray, List.set_cons_zero, List.set_cons_succ]
    rfl
  refine one_ (i := 18) (N := none) #[true, true, true, true, true, true, true, true, true, true, true, true, true, true, true, true, true, true, true, false] rfl rfl (by kernel_rfl) (by decide) (fun K hK => ?_)
  have hn_6_5 := hn_5_6.symm
  have hf0_ := blk_frozen m5 0
  have hc0_ := (blk_cell m5 0).trans rfl
  have hf1_ := blk_frozen m5 1
  have hc1_ := (blk_cell m5 1).trans rfl
  have hf2_ := blk_frozen m5 2
  have hc2_ := (blk_cell m5 2).trans rfl
  refine skip_ (w1 := ?_) (by rfl) rfl ?_ ?_
  rotate_left
  · go_simp
    rfl
  clear hf0_ hc0_ hf1_ hc1_ hf2_ hc2_
  replace mf : Blk (Wf.setCell ⟨g5, 0, none⟩ (.int .i64 Ai.f0.f0)) b #[.int .i64 par, .int .i64 rate, .slice (some ad) ys.length c] 109 := blk_far (p := ⟨g5, 0, none⟩) mf hn_f_5 _
  replace m3 : Blk (Wf.setCell ⟨g5, 0, none⟩ (.int .i64 Ai.f0.f0)) g3 #[.int .i64 i, .int .i64 k] 81 := blk_far (p := ⟨g5, 0, none⟩) m3 hn_3_5 _
  replace m6 : Blk (Wf.setCell ⟨g5, 0, none⟩ (.int .i64 Ai.f0.f0)) g6 #[.int .i64 0, .int .i64 0, .int .i64 0] 105 := blk_far (p := ⟨g5, 0, none⟩) m6 hn_6_5 _
  replace m5 : Blk (Wf.setCell ⟨g5, 0, none⟩ (.int .i64 Ai.f0.f0)) g5 #[.int .i64 Ai.f0.f0, .int .i64 0, .int .i64 0] 105 := blk_put m5 0 _ rfl
  replace mB : Below w.heap.size w (Wf.setCell ⟨g5, 0, none⟩ (.int .i64 Ai.f0.f0)) := mB.setCell (p := ⟨g5, 0, none⟩) hG5 _
  replace mf : Blk ((Wf.setCell ⟨g5, 0, none⟩ (.int .i64 Ai.f0.f0)).setCell ⟨g5, 1, none⟩ (.int .i64 Ai.f0.f1)) b #[.int .i64 par, .int .i64 rate, .slice (some ad) ys.length c] 109 := blk_far (p := ⟨g5, 1, none⟩) mf hn_f_5 _
  replace m3 : Blk ((Wf.setCell ⟨g5, 0, none⟩ (.int .i64 Ai.f0.f0)).setCell ⟨g5, 1, none⟩ (.int .i64 Ai.f0.f1)) g3 #[.int .i64 i, .int .i64 k] 81 := blk_far (p := ⟨g5, 1, none⟩) m3 hn_3_5 _
  replace m6 : Blk ((Wf.setCell ⟨g5, 0, none⟩ (.int .i64 Ai.f0.f0)).setCell ⟨g5, 1, none⟩ (.int .i64 Ai.f0.f1)) g6 #[.int .i64 0, .int .i64 0, .int .i64 0] 105 := blk_far (p := ⟨g5, 1, none⟩) m6 hn_6_5 _
  replace m5 : Blk ((Wf.setCell ⟨g5, 0, none⟩ (.int .i64 Ai.f0.f0)).setCell ⟨g5, 1, none⟩ (.int .i64 Ai.f0.f1)) g5 #[.int .i64 Ai.f0.f0, .int .i64 Ai.f0.f1, .int .i64 0] 105 := blk_put m5 1 _ rfl
  replace mB : Below w.heap.size w ((Wf.setCell ⟨g5, 0, none⟩ (.int .i64 Ai.f0.f0)).setCell ⟨g5, 1, none⟩ (.int .i64 Ai.f0.f1)) := mB.setCell (p := ⟨g5, 1, none⟩) hG5 _
  replace mf : Blk (((Wf.setCell ⟨g5, 0, none⟩ (.int .i64 Ai.f0.f0)).setCell ⟨g5, 1, none⟩ (.int .i64 Ai.f0.f1)).setCell ⟨g5, 2, none⟩ (.int .i64 Ai.f1)) b #[.int .i64 par, .int .i64 rate, .slice (some ad) ys.length c] 109 := blk_far (p := ⟨g5, 2, none⟩) mf hn_f_5 _
  replace m3 : Blk (((Wf.setCell ⟨g5, 0, none⟩ (.int .i64 Ai.f0.f0)).setCell ⟨g5, 1, none⟩ (.int .i64 Ai.f0.f1)).setCell ⟨g5, 2, none⟩ (.int .i64 Ai.f1)) g3 #[.int .i64 i, .int .i64 k] 81 := blk_far (p := ⟨g5, 2, none⟩) m3 hn_3_5 _
  replace m6 : Blk (((Wf.setCell ⟨g5, 0, none⟩ (.int .i64 Ai.f0.f0)).setCell ⟨g5, 1, none⟩ (.int .i64 Ai.f0.f1)).setCell ⟨g5, 2, none⟩ (.int .i64 Ai.f1)) g6 #[.int .i64 0, .int .i64 0, .int .i64 0] 105 := blk_far (p := ⟨g5, 2, none⟩) m6 hn_6_5 _
  replace m5 : Blk (((Wf.setCell ⟨g5, 0, none⟩ (.int .i64 Ai.f0.f0)).setCell ⟨g5, 1, none⟩ (.int .i64 Ai.f0.f1)).setCell ⟨g5, 2, none⟩ (.int .i64 Ai.f1)) g5 #[.int .i64 Ai.f0.f0, .int .i64 Ai.f0.f1, .int .i64 Ai.f1] 105 := blk_put m5 2 _ rfl
  replace mB : Below w.heap.size w (((Wf.setCell ⟨g5, 0, none⟩ (.int .i64 Ai.f0.f0)).setCell ⟨g5, 1, none⟩ (.int .i64 Ai.f0.f1)).setCell ⟨g5, 2, none⟩ (.int .i64 Ai.f1)) := mB.setCell (p := ⟨g5, 2, none⟩) hG5 _
  refine hK.out _ _ ⟨((blk_cell mf 0).trans rfl), ((blk_cell mf 1).trans rfl), ((blk_cell mf 2).trans rfl), ((blk_cell m3 0).trans rfl), ((blk_cell m3 1).trans rfl), ((mB.cell (World.block_lt_of_cell? w _ hx0)).trans hx0), ((mB.cell (World.block_lt_of_cell? w _ hx1)).trans hx1), ((mB.cell (World.block_lt_of_cell? w _ hx2)).trans hx2), ((mB.cell (World.block_lt_of_cell? w _ hy0)).trans hy0), ((mB.cell (World.block_lt_of_cell? w _ hy1)).trans hy1), ((mB.cell (World.block_lt_of_cell? w _ hy2)).trans hy2)⟩ (fun hHeld => ?_)
  clear hK K
  refine one_ (i := 19) (N := none) #[true, true, true, true, true, true, true, true, true, true, true, true, true, true, true, true, true, true, true, true] rfl rfl (by kernel_rfl) (by decide) (fun K hK => ?_)
  have hf0_ := blk_frozen m6 0
  have hc0_ := (blk_cell m6 0).trans rfl
  have hf1_ := blk_frozen m6 1
  have hc1_ := (blk_cell m6 1).trans rfl
  have hf2_ := blk_frozen m6 2
  have hc2_ := (blk_cell m6 2).trans rfl
  refine skip_ (w1 := ?_) (by rfl) rfl ?_ ?_
  rotate_left
  · go_simp
    rfl
  clear hf0_ hc0_ hf1_ hc1_ hf2_ hc2_
  replace mf : Blk ((((Wf.setCell ⟨g5, 0, none⟩ (.int .i64 Ai.f0.f0)).setCell ⟨g5, 1, none⟩ (.int .i64 Ai.f0.f1)).setCell ⟨g5, 2, none⟩ (.int .i64 Ai.f1)).setCell ⟨g6, 0, none⟩ (.int .i64 Ak.f0.f0)) b #[.int .i64 par, .int .i64 rate, .slice (some ad) ys.length c] 109 := blk_far (p := ⟨g6, 0, none⟩) mf hn_f_6 _
  replace m3 : Blk ((((Wf.setCell ⟨g5, 0, none⟩ (.int .i64 Ai.f0.f0)).setCell ⟨g5, 1, none⟩ (.int .i64 Ai.f0.f1)).setCell ⟨g5, 2, none⟩ (.int .i64 Ai.f1)).setCell ⟨g6, 0, none⟩ (.int .i64 Ak.f0.f0)) g3 #[.int .i64 i, .int .i64 k] 81 := blk_far (p := ⟨g6, 0, none⟩) m3 hn_3_6 _
  replace m5 : Blk ((((Wf.setCell ⟨g5, 0, none⟩ (.int .i64 Ai.f0.f0)).setCell ⟨g5, 1, none⟩ (.int .i64 Ai.f0.f1)).setCell ⟨g5, 2, none⟩ (.int .i64 Ai.f1)).setCell ⟨g6, 0, none⟩ (.int .i64 Ak.f0.f0)) g5 #[.int .i64 Ai.f0.f0, .int .i64 Ai.f0.f1, .int .i64 Ai.f1] 105 := blk_far (p := ⟨g6, 0, none⟩) m5 hn_5_6 _
  replace m6 : Blk ((((Wf.setCell ⟨g5, 0, none⟩ (.int .i64 Ai.f0.f0)).setCell ⟨g5, 1, none⟩ (.int .i64 Ai.f0.f1)).setCell ⟨g5, 2, none⟩ (.int .i64 Ai.f1)).setCell ⟨g6, 0, none⟩ (.int .i64 Ak.f0.f0)) g6 #[.int .i64 Ak.f0.f0, .int .i64 0, .int .i64 0] 105 := blk_put m6 0 _ rfl
  replace mB : Below w.heap.size w ((((Wf.setCell ⟨g5, 0, none⟩ (.int .i64 Ai.f0.f0)).setCell ⟨g5, 1, none⟩ (.int .i64 Ai.f0.f1)).setCell ⟨g5, 2, none⟩ (.int .i64 Ai.f1)).setCell ⟨g6, 0, none⟩ (.int .i64 Ak.f0.f0)) := mB.setCell (p := ⟨g6, 0, none⟩) hG6 _
  replace mf : Blk (((((Wf.setCell ⟨g5, 0, none⟩ (.int .i64 Ai.f0.f0)).setCell ⟨g5, 1, none⟩ (.int .i64 Ai.f0.f1)).setCell ⟨g5, 2, none⟩ (.int .i64 Ai.f1)).setCell ⟨g6, 0, none⟩ (.int .i64 Ak.f0.f0)).setCell ⟨g6, 1, none⟩ (.int .i64 Ak.f0.f1)) b #[.int .i64 par, .int .i64 rate, .slice (some ad) ys.length c] 109 := blk_far (p := ⟨g6, 1, none⟩) mf hn_f_6 _
  replace m3 : Blk (((((Wf.setCell ⟨g5, 0, none⟩ (.int .i64 Ai.f0.f0)).setCell ⟨g5, 1, none⟩ (.int .i64 Ai.f0.f1)).setCell ⟨g5, 2, none⟩ (.int .i64 Ai.f1)).setCell ⟨g6, 0, none⟩ (.int .i64 Ak.f0.f0)).setCell ⟨g6, 1, none⟩ (.int .i64 Ak.f0.f1)) g3 #[.int .i64 i, .int .i64 k] 81 := blk_far (p := ⟨g6, 1, none⟩) m3 hn_3_6 _
  replace m5 : Blk (((((Wf.setCell ⟨g5, 0, none⟩ (.int .i64 Ai.f0.f0)).setCell ⟨g5, 1, none⟩ (.int .i64 Ai.f0.f1)).setCell ⟨g5, 2, none⟩ (.int .i64 Ai.f1)).setCell ⟨g6, 0, none⟩ (.int .i64 Ak.f0.f0)).setCell ⟨g6, 1, none⟩ (.int .i64 Ak.f0.f1)) g5 #[.int .i64 Ai.f0.f0, .int .i64 Ai.f0.f1, .int .i64 Ai.f1] 105 := blk_far (p := ⟨g6, 1, none⟩) m5 hn_5_6 _
  replace m6 : Blk (((((Wf.setCell ⟨g5, 0, none⟩ (.int .i64 Ai.f0.f0)).setCell ⟨g5, 1, none⟩ (.int .i64 Ai.f0.f1)).setCell ⟨g5, 2, none⟩ (.int .i64 Ai.f1)).setCell ⟨g6, 0, none⟩ (.int .i64 Ak.f0.f0)).setCell ⟨g6, 1, none⟩ (.int .i64 Ak.f0.f1)) g6 #[.int .i64 Ak.f0.f0, .int .i64 Ak.f0.f1, .int .i64 0] 105 := blk_put m6 1 _ rfl
  replace mB : Below w.heap.size w (((((Wf.setCell ⟨g5, 0, none⟩ (.int .i64 Ai.f0.f0)).setCell ⟨g5, 1, none⟩ (.int .i64 Ai.f0.f1)).setCell ⟨g5, 2, none⟩ (.int .i64 Ai.f1)).setCell ⟨g6, 0, none⟩ (.int .i64 Ak.f0.f0)).setCell ⟨g6, 1, none⟩ (.int .i64 Ak.f0.f1)) := mB.setCell (p := ⟨g6, 1, none⟩) hG6 _
  replace mf : Blk ((((((Wf.setCell ⟨g5, 0, none⟩ (.int .i64 Ai.f0.f0)).setCell ⟨g5, 1, none⟩ (.int .i64 Ai.f0.f1)).setCell ⟨g5, 2, none⟩ (.int .i64 Ai.f1)).setCell ⟨g6, 0, none⟩ (.int .i64 Ak.f0.f0)).setCell ⟨g6, 1, none⟩ (.int .i64 Ak.f0.f1)).setCell ⟨g6, 2, none⟩ (.int .i64 Ak.f1)) b #[.int .i64 par, .int .i64 rate, .slice (some ad) ys.length c] 109 := blk_far (p := ⟨g6, 2, none⟩) mf hn_f_6 _
  replace m3 : Blk ((((((Wf.setCell ⟨g5, 0, none⟩ (.int .i64 Ai.f0.f0)).setCell ⟨g5, 1, none⟩ (.int .i64 Ai.f0.f1)).setCell ⟨g5, 2, none⟩ (.int .i64 Ai.f1)).setCell ⟨g6, 0, none⟩ (.int .i64 Ak.f0.f0)).setCell ⟨g6, 1, none⟩ (.int .i64 Ak.f0.f1)).setCell ⟨g6, 2, none⟩ (.int .i64 Ak.f1)) g3 #[.int .i64 i, .int .i64 k] 81 := blk_far (p := ⟨g6, 2, none⟩) m3 hn_3_6 _
  replace m5 : Blk ((((((Wf.setCell ⟨g5, 0, none⟩ (.int .i64 Ai.f0.f0)).setCell ⟨g5, 1, none⟩ (.int .i64 Ai.f0.f1)).setCell ⟨g5, 2, none⟩ (.int .i64 Ai.f1)).setCell ⟨g6, 0, none⟩ (.int .i64 Ak.f0.f0)).setCell ⟨g6, 1, none⟩ (.int .i64 Ak.f0.f1)).setCell ⟨g6, 2, none⟩ (.int .i64 Ak.f1)) g5 #[.int .i64 Ai.f0.f0, .int .i64 Ai.f0.f1, .int .i64 Ai.f1] 105 := blk_far (p := ⟨g6, 2, none⟩) m5 hn_5_6 _
  replace m6 : Blk ((((((Wf.setCell ⟨g5, 0, none⟩ (.int .i64 Ai.f0.f0)).setCell ⟨g5, 1, none⟩ (.int .i64 Ai.f0.f1)).setCell ⟨g5, 2, none⟩ (.int .i64 Ai.f1)).setCell ⟨g6, 0, none⟩ (.int .i64 Ak.f0.f0)).setCell ⟨g6, 1, none⟩ (.int .i64 Ak.f0.f1)).setCell ⟨g6, 2, none⟩ (.int .i64 Ak.f1)) g6 #[.int .i64 Ak.f0.f0, .int .i64 Ak.f0.f1, .int .i64 Ak.f1] 105 := blk_put m6 2 _ rfl
  replace mB : Below w.heap.size w ((((((Wf.setCell ⟨g5, 0, none⟩ (.int .i64 Ai.f0.f0)).setCell ⟨g5, 1, none⟩ (.int .i64 Ai.f0.f1)).setCell ⟨g5, 2, none⟩ (.int .i64 Ai.f1)).setCell ⟨g6, 0, none⟩ (.int .i64 Ak.f0.f0)).setCell ⟨g6, 1, none⟩ (.int .i64 Ak.f0.f1)).setCell ⟨g6, 2, none⟩ (.int .i64 Ak.f1)) := mB.setCell (p := ⟨g6, 2, none⟩) hG6 _
  refine hK.out _ _ ⟨((blk_cell mf 0).trans rfl), ((blk_cell mf 1).trans rfl), ((blk_cell mf 2).trans rfl), ((blk_cell m3 0).trans rfl), ((blk_cell m3 1).trans rfl), ((mB.cell (World.block_lt_of_cell? w _ hx0)).trans hx0), ((mB.cell (World.block_lt_of_cell? w _ hx1)).trans hx1), ((mB.cell (World.block_lt_of_cell? w _ hx2)).trans hx2), ((mB.cell (World.block_lt_of_cell? w _ hy0)).trans hy0), ((mB.cell (World.block_lt_of_cell? w _ hy1)).trans hy1), ((mB.cell (World.block_lt_of_cell? w _ hy2)).trans hy2)⟩ (fun hHeld => ?_)
  clear hK K
  refine done_ (by kernel_rfl) ?_
  go_wp2
  try clear hHeld
  generalize hW_ : ((((((Wf.setCell ⟨g5, 0, none⟩ (.int .i64 Ai.f0.f0)).setCell ⟨g5, 1, none⟩ (.int .i64 Ai.f0.f1)).setCell ⟨g5, 2, none⟩ (.int .i64 Ai.f1)).setCell ⟨g6, 0, none⟩ (.int .i64 Ak.f0.f0)).setCell ⟨g6, 1, none⟩ (.int .i64 Ak.f0.f1)).setCell ⟨g6, 2, none⟩ (.int .i64 Ak.f1)) = W4 at mf m3 m5 m6 mB ⊢
  clear hW_
  replace mf := blk_drew mf
  replace m3 := blk_drew m3
  replace m5 := blk_drew m5
  replace m6 := blk_drew m6
  replace mB := below_drew1 mB
  refine start_ (n := 16) (S := fun w' => w'.cell? ⟨g5, 0, none⟩ = some (.int .i64 Ai.f0.f0) ∧ w'.cell? ⟨g5, 1, none⟩ = some (.int .i64 Ai.f0.f1) ∧ w'.cell? ⟨g5, 2, none⟩ = some (.int .i64 Ai.f1) ∧ w'.cell? ⟨g6, 0, none⟩ = some (.int .i64 Ak.f0.f0) ∧ w'.cell? ⟨g6, 1, none⟩ = some (.int .i64 Ak.f0.f1) ∧ w'.cell? ⟨g6, 2, none⟩ = some (.int .i64 Ak.f1)) (ds := []) #[false, false, false, false, false, false, false, false, false, false, false, false, false, false, false, false] (by kernel_rfl) rfl rfl ⟨((blk_cell m5 0).trans rfl), ((blk_cell m5 1).trans rfl), ((blk_cell m5 2).trans rfl), ((blk_cell m6 0).trans rfl), ((blk_cell m6 1).trans rfl), ((blk_cell m6 2).trans rfl)⟩ (fun hHeld => ?_)
  generalize hWd : World.drew _ = Wx at *
  clear hWd
  refine pure_ (i := 0) (N := some 33) (v := ?_) (a' := ?_) #[true, false, false, false, false, false, false, false, false, false, false, false, false, false, false, false] rfl rfl (by kernel_rfl) (fun _ _ _ h => h) (Or.inl ⟨by rfl, ?_⟩) ?_ ?_
  rotate_left
  · intro w'
    go_simp
    with_reducible rfl
  rotate_left
  · simp only [Act.put, List.setIfInBounds_toArray, List.set_cons_zero, List.set_cons_succ, i64_w, i32_w]
    rfl
  refine pure_ (i := 2) (N := some 35) (v := ?_) (a' := ?_) #[true, false, true, false, false, false, false, false, false, false, false, false, false, false, false, false] rfl rfl (by kernel_rfl) (fun _ _ _ h => h) (Or.inl ⟨by rfl, ?_⟩) ?_ ?_
  rotate_left
  · intro w'
    go_simp
    with_reducible rfl
  rotate_left
  · simp only [Act.put, List.setIfInBounds_toArray, List.set_cons_zero, List.set_cons_succ, i64_w, i32_w]
    rfl
  refine pure_ (i := 5) (N := some 38) (v := ?_) (a' := ?_) #[true, false, true, false, false, true, false, false, false, false, false, false, false, false, false, false] rfl rfl (by kernel_rfl) (fun _ _ _ h => h) (Or.inl ⟨by rfl, ?_⟩) ?_ ?_
  rotate_left
  · intro w'
    go_simp
    with_reducible rfl
  rotate_left
  · simp only [Act.put, List.setIfInBounds_toArray, List.set_cons_zero, List.set_cons_succ, i64_w, i32_w]
    rfl
  refine take_ (i := 1) (N := some 34) (v := ?_) (a' := ?_) #[true, true, true, false, false, true, false, false, false, false, false, false, false, false, false, false] rfl rfl (by kernel_rfl) (fun _ _ _ h => h) (Or.inl ⟨by rfl, ?_⟩) hHeld ?_ ?_
  rotate_left
  · rintro w' ⟨s0, s1, s2, s3, s4, s5⟩
    go_simp
    with_reducible rfl
  rotate_left
  · simp only [Act.put, List.setIfInBounds_toArray, List.set_cons_zero, List.set_cons_succ, i64_w, i32_w]
    rfl
  refine take_ (i := 3) (N := some 36) (v := ?_) (a' := ?_) #[true, true, true, true, false, true, false, false, false, false, false, false, false, false, false, false] rfl rfl (by kernel_rfl) (fun _ _ _ h => h) (Or.inl ⟨by rfl, ?_⟩) hHeld ?_ ?_
  rotate_left
  · rintro w' ⟨s0, s1, s2, s3, s4, s5⟩
    go_simp
    with_reducible rfl
  rotate_left
  · simp only [Act.put, List.setIfInBounds_toArray, List.set_cons_zero, List.set_cons_succ, i64_w, i32_w]
    rfl
  refine take_ (i := 6) (N := some 39) (v := ?_) (a' := ?_) #[true, true, true, true, false, true, true, false, false, false, false, false, false, false, false, false] rfl rfl (by kernel_rfl) (fun _ _ _ h => h) (Or.inl ⟨by rfl, ?_⟩) hHeld ?_ ?_
  rotate_left
  · rintro w' ⟨s0, s1, s2, s3, s4, s5⟩
    go_simp
    with_reducible rfl
  rotate_left
  · simp only [Act.put, List.setIfInBounds_toArray, List.set_cons_zero, List.set_cons_succ, i64_w, i32_w]
    rfl
  refine join_ (σ := Nat × Nat × Nat) 2 #[true, true, true, true, true, true, true, true, true, true, true, true, true, true, false, false] (fun s => [(37, .agg #[.int .i64 (seenI rate Ai Ak.f1).f0, .int .i64 (seenI rate Ai Ak.f1).f1]), (40, .slice (some ⟨s.1, 0, none⟩) 2 2), (41, .func (.func 101) #[] #[.pointer (some ⟨s.2.1, 0, none⟩)]), (42, .tuple #[.agg #[.int .i64 (meetF [seenI rate Ai Ak.f1, Ak.f0]).1, .int .i64 (meetF [seenI rate Ai Ak.f1, Ak.f0]).2], .bool (decide ((meetF [seenI rate Ai Ak.f1, Ak.f0]).1 ≤ (meetF [seenI rate Ai Ak.f1, Ak.f0]).2))]), (32, .tuple #[.agg #[.int .i64 (meetF [seenI rate Ai Ak.f1, Ak.f0]).1, .int .i64 (meetF [seenI rate Ai Ak.f1, Ak.f0]).2], .bool (decide ((meetF [seenI rate Ai Ak.f1, Ak.f0]).1 ≤ (meetF [seenI rate Ai Ak.f1, Ak.f0]).2))]), (43, .agg #[.int .i64 (meetF [seenI rate Ai Ak.f1, Ak.f0]).1, .int .i64 (meetF [seenI rate Ai Ak.f1, Ak.f0]).2]), (44, .bool (decide ((meetF [seenI rate Ai Ak.f1, Ak.f0]).1 ≤ (meetF [seenI rate Ai Ak.f1, Ak.f0]).2))), (7, .pointer (some ⟨s.2.2, 0, none⟩))]) (fun s w' => Blk w' b #[.int .i64 par, .int .i64 rate, .slice (some ad) ys.length c] 109 ∧ Blk w' g3 #[.int .i64 i, .int .i64 k] 81 ∧ Blk w' g5 #[.int .i64 Ai.f0.f0, .int .i64 Ai.f0.f1, .int .i64 Ai.f1] 105 ∧ Blk w' g6 #[.int .i64 Ak.f0.f0, .int .i64 Ak.f0.f1, .int .i64 Ak.f1] 105 ∧ Blk w' (s.1) #[.int .i64 (seenI rate Ai Ak.f1).f0, .int .i64 (seenI rate Ai Ak.f1).f1, .int .i64 Ak.f0.f0, .int .i64 Ak.f0.f1] 35 ∧ Blk w' (s.2.1) #[.slice (some ⟨s.1, 0, none⟩) 2 2] 65 ∧ Blk w' (s.2.2) #[.int .i64 0, .int .i64 0] 35 ∧ Below w.heap.size w w' ∧ w.heap.size ≤ s.1 ∧ w.heap.size ≤ s.2.1 ∧ w.heap.size ≤ s.2.2 ∧ b ≠ s.1 ∧ g3 ≠ s.1 ∧ g5 ≠ s.1 ∧ g6 ≠ s.1 ∧ b ≠ s.2.1 ∧ g3 ≠ s.2.1 ∧ g5 ≠ s.2.1 ∧ g6 ≠ s.2.1 ∧ s.1 ≠ s.2.1 ∧ b ≠ s.2.2 ∧ g3 ≠ s.2.2 ∧ g5 ≠ s.2.2 ∧ g6 ≠ s.2.2 ∧ s.1 ≠ s.2.2 ∧ s.2.1 ≠ s.2.2) ?_ ?_
  rotate_left
  · intro hCont
    refine two_ (i := 4) (j := 13) (Ni := some 37) (Nj := some 7) #[true, true, true, true, true, true, true, false, false, false, false, false, false, false, false, false] #[true, true, true, true, false, true, true, false, false, false, false, false, false, true, false, false] rfl rfl rfl rfl (by kernel_rfl) (by decide) (by decide) (fun K hK => ?_) (fun K hK => ?_)
    · skip
      have hcon_ := seen_any b par rate ys Ai Ak.f1 Wx (hF0.below mB)
      refine goes_ Try.func90 (by kernel_rfl) rfl #[.pointer (some ⟨b, 0, none⟩), .agg #[.int .i64 Ai.f0.f0, .int .i64 Ai.f0.f1, .int .i64 Ai.f1], .int .i64 Ak.f1] (by rfl) rfl rfl (by simp only [List.map_toArray, List.map_cons, List.map_nil]; rfl) ?_
      with_reducible refine (hcon_).mono ?_
      rintro e w4 ⟨rfl, hb⟩
      refine ⟨_, rfl, ?_⟩
      clear hcon_
      replace mf := blk_below mf hb
      replace m3 := blk_below m3 hb
      replace m5 := blk_below m5 hb
      replace m6 := blk_below m6 hb
      replace mB := below_step mB hb
      clear hb
      refine hK.out _ _ ⟨((blk_cell m5 0).trans rfl), ((blk_cell m5 1).trans rfl), ((blk_cell m5 2).trans rfl), ((blk_cell m6 0).trans rfl), ((blk_cell m6 1).trans rfl), ((blk_cell m6 2).trans rfl)⟩ (fun hHeld => ?_)
      clear hK K
      refine norm_ (a' := ?_) ?_ ?_
      rotate_left
      · show Act.put _ (some 37) _ = _
        simp only [Act.put, List.setIfInBounds_toArray, List.set_cons_zero, List.set_cons_succ, i64_w, i32_w]
        rfl
      refine two_ (i := 7) (j := 13) (Ni := some 40) (Nj := some 7) #[true, true, true, true, true, true, true, true, false, false, false, false, false, false, false, false] #[true, true, true, true, true, true, true, false, false, false, false, false, false, true, false, false] rfl rfl rfl rfl (by kernel_rfl) (by decide) (by decide) (fun K hK => ?_) (fun K hK => ?_)
      · skip
        have hn_f_R : b ≠ w4.heap.size := by have h_ := blk_lt mf; omega
        have hn_3_R : g3 ≠ w4.heap.size := by have h_ := blk_lt m3; omega
        have hn_5_R : g5 ≠ w4.heap.size := by have h_ := blk_lt m5; omega
        have hn_6_R : g6 ≠ w4.heap.size := by have h_ := blk_lt m6; omega
        have hGR : w.heap.size ≤ w4.heap.size := by have h_ := mB.size; omega
        replace mf := blk_alloc mf (.cells #[.int .i64 (seenI rate Ai Ak.f1).f0, .int .i64 (seenI rate Ai Ak.f1).f1, .int .i64 Ak.f0.f0, .int .i64 Ak.f0.f1] 35)
        replace m3 := blk_alloc m3 (.cells #[.int .i64 (seenI rate Ai Ak.f1).f0, .int .i64 (seenI rate Ai Ak.f1).f1, .int .i64 Ak.f0.f0, .int .i64 Ak.f0.f1] 35)
        replace m5 := blk_alloc m5 (.cells #[.int .i64 (seenI rate Ai Ak.f1).f0, .int .i64 (seenI rate Ai Ak.f1).f1, .int .i64 Ak.f0.f0, .int .i64 Ak.f0.f1] 35)
        replace m6 := blk_alloc m6 (.cells #[.int .i64 (seenI rate Ai Ak.f1).f0, .int .i64 (seenI rate Ai Ak.f1).f1, .int .i64 Ak.f0.f0, .int .i64 Ak.f0.f1] 35)
        have mR : Blk (w4.alloc (.cells #[.int .i64 (seenI rate Ai Ak.f1).f0, .int .i64 (seenI rate Ai Ak.f1).f1, .int .i64 Ak.f0.f0, .int .i64 Ak.f0.f1] 35)) (w4.heap.size) #[.int .i64 (seenI rate Ai Ak.f1).f0, .int .i64 (seenI rate Ai Ak.f1).f1, .int .i64 Ak.f0.f0, .int .i64 Ak.f0.f1] 35 := by have h_ := blk_new w4 (.cells #[.int .i64 (seenI rate Ai Ak.f1).f0, .int .i64 (seenI rate Ai Ak.f1).f1, .int .i64 Ak.f0.f0, .int .i64 Ak.f0.f1] 35); first | exact h_ | (simp only [World.size_alloc] at h_; exact h_)
        replace mB := below_alloc mB (.cells #[.int .i64 (seenI rate Ai Ak.f1).f0, .int .i64 (seenI rate Ai Ak.f1).f1, .int .i64 Ak.f0.f0, .int .i64 Ak.f0.f1] 35)
        refine value_ (w1 := ?_) (v := ?_) (by rfl) rfl ?_ ?_
        rotate_left 2
        · go_simp
          constructor
          · rfl
          · rfl
        refine hK.out _ _ ⟨((blk_cell m5 0).trans rfl), ((blk_cell m5 1).trans rfl), ((blk_cell m5 2).trans rfl), ((blk_cell m6 0).trans rfl), ((blk_cell m6 1).trans rfl), ((blk_cell m6 2).trans rfl)⟩ (fun hHeld => ?_)
        clear hK K
        refine norm_ (a' := ?_) ?_ ?_
        rotate_left
        · show Act.put _ (some 40) _ = _
          simp only [Act.put, List.setIfInBounds_toArray, List.set_cons_zero, List.set_cons_succ, i64_w, i32_w]
          rfl
        refine two_ (i := 8) (j := 13) (Ni := some 41) (Nj := some 7) #[true, true, true, true, true, true, true, true, true, false, false, false, false, false, false, false] #[true, true, true, true, true, true, true, true, false, false, false, false, false, true, false, false] rfl rfl rfl rfl (by kernel_rfl) (by decide) (by decide) (fun K hK => ?_) (fun K hK => ?_)
        · skip
          have hcon_ := values35_at (some ⟨w4.heap.size, 0, none⟩) 2 2 (w4.heap.size + 1) (w4.alloc (.cells #[.int .i64 (seenI rate Ai Ak.f1).f0, .int .i64 (seenI rate Ai Ak.f1).f1, .int .i64 Ak.f0.f0, .int .i64 Ak.f0.f1] 35)) (by first | rfl | simp only [World.size_alloc])
          have hn_f_V : b ≠ w4.heap.size + 1 := by have h_ := blk_lt mf; simp only [World.size_alloc] at h_; omega
          have hn_3_V : g3 ≠ w4.heap.size + 1 := by have h_ := blk_lt m3; simp only [World.size_alloc] at h_; omega
          have hn_5_V : g5 ≠ w4.heap.size + 1 := by have h_ := blk_lt m5; simp only [World.size_alloc] at h_; omega
          have hn_6_V : g6 ≠ w4.heap.size + 1 := by have h_ := blk_lt m6; simp only [World.size_alloc] at h_; omega
          have hn_R_V : w4.heap.size ≠ w4.heap.size + 1 := by have h_ := blk_lt mR; simp only [World.size_alloc] at h_; omega
          have hGV : w.heap.size ≤ w4.heap.size + 1 := by have h_ := mB.size; simp only [World.size_alloc] at h_; omega
          replace mf := blk_alloc mf (.cells #[.slice (some ⟨w4.heap.size, 0, none⟩) 2 2] 65)
          replace m3 := blk_alloc m3 (.cells #[.slice (some ⟨w4.heap.size, 0, none⟩) 2 2] 65)
          replace m5 := blk_alloc m5 (.cells #[.slice (some ⟨w4.heap.size, 0, none⟩) 2 2] 65)
          replace m6 := blk_alloc m6 (.cells #[.slice (some ⟨w4.heap.size, 0, none⟩) 2 2] 65)
          replace mR := blk_alloc mR (.cells #[.slice (some ⟨w4.heap.size, 0, none⟩) 2 2] 65)
          have mV : Blk ((w4.alloc (.cells #[.int .i64 (seenI rate Ai Ak.f1).f0, .int .i64 (seenI rate Ai Ak.f1).f1, .int .i64 Ak.f0.f0, .int .i64 Ak.f0.f1] 35)).alloc (.cells #[.slice (some ⟨w4.heap.size, 0, none⟩) 2 2] 65)) (w4.heap.size + 1) #[.slice (some ⟨w4.heap.size, 0, none⟩) 2 2] 65 := by have h_ := blk_new (w4.alloc (.cells #[.int .i64 (seenI rate Ai Ak.f1).f0, .int .i64 (seenI rate Ai Ak.f1).f1, .int .i64 Ak.f0.f0, .int .i64 Ak.f0.f1] 35)) (.cells #[.slice (some ⟨w4.heap.size, 0, none⟩) 2 2] 65); first | exact h_ | (simp only [World.size_alloc] at h_; exact h_)
          replace mB := below_alloc mB (.cells #[.slice (some ⟨w4.heap.size, 0, none⟩) 2 2] 65)
          refine goes_ Try.func84 (by kernel_rfl) rfl #[.slice (some ⟨w4.heap.size, 0, none⟩) 2 2] (by rfl) rfl rfl (by simp only [List.map_toArray, List.map_cons, List.map_nil]; rfl) ?_
          with_reducible refine (hcon_).mono ?_
          rintro e W_ ⟨rfl, rfl⟩
          refine ⟨_, rfl, ?_⟩
          clear hcon_
          refine hK.out _ _ ⟨((blk_cell m5 0).trans rfl), ((blk_cell m5 1).trans rfl), ((blk_cell m5 2).trans rfl), ((blk_cell m6 0).trans rfl), ((blk_cell m6 1).trans rfl), ((blk_cell m6 2).trans rfl)⟩ (fun hHeld => ?_)
          clear hK K
          refine norm_ (a' := ?_) ?_ ?_
          rotate_left
          · show Act.put _ (some 41) _ = _
            simp only [Act.put, List.setIfInBounds_toArray, List.set_cons_zero, List.set_cons_succ, i64_w, i32_w]
            rfl
          refine two_ (i := 9) (j := 13) (Ni := some 42) (Nj := some 7) #[true, true, true, true, true, true, true, true, true, true, false, false, false, false, false, false] #[true, true, true, true, true, true, true, true, true, false, false, false, false, true, false, false] rfl rfl rfl rfl (by kernel_rfl) (by decide) (by decide) (fun K hK => ?_) (fun K hK => ?_)
          · skip
            have hcon_ := meet35_any 101 85 #[.pointer (some ⟨w4.heap.size + 1, 0, none⟩)] #[] ((w4.alloc (.cells #[.int .i64 (seenI rate Ai Ak.f1).f0, .int .i64 (seenI rate Ai Ak.f1).f1, .int .i64 Ak.f0.f0, .int .i64 Ak.f0.f1] 35)).alloc (.cells #[.slice (some ⟨w4.heap.size, 0, none⟩) 2 2] 65)) [(seenI rate Ai Ak.f1), Ak.f0] id (enters_of Try.func101 (by kernel_rfl) rfl) (enters_of Try.func85 (by kernel_rfl) rfl) (fun W_ hb_ => values35_stops 5 (by omega) (w4.heap.size + 1) ((w4.alloc (.cells #[.int .i64 (seenI rate Ai Ak.f1).f0, .int .i64 (seenI rate Ai Ak.f1).f1, .int .i64 Ak.f0.f0, .int .i64 Ak.f0.f1] 35)).alloc (.cells #[.slice (some ⟨w4.heap.size, 0, none⟩) 2 2] 65)) W_ (some ⟨w4.heap.size, 0, none⟩) 2 [(seenI rate Ai Ak.f1), Ak.f0] (by simp) (C_two (x := (seenI rate Ai Ak.f1)) (y := Ak.f0) mR) hb_ (Nat.lt_of_lt_of_le (blk_lt mV) hb_.size) ((blk_cell (blk_below mV hb_) 0).trans rfl)) itself_span
            refine goes_ Try.func83 (by kernel_rfl) rfl #[.func (.func 101) #[] #[.pointer (some ⟨w4.heap.size + 1, 0, none⟩)], .func (.func 85) #[] #[]] (by rfl) rfl rfl (by simp only [List.map_toArray, List.map_cons, List.map_nil]; rfl) ?_
            with_reducible refine (hcon_).mono ?_
            rintro e w9 ⟨rfl, hb⟩
            refine ⟨_, rfl, ?_⟩
            clear hcon_
            replace mf := blk_below mf hb
            replace m3 := blk_below m3 hb
            replace m5 := blk_below m5 hb
            replace m6 := blk_below m6 hb
            replace mR := blk_below mR hb
            replace mV := blk_below mV hb
            replace mB := below_step mB hb
            clear hb
            refine hK.out _ _ ⟨((blk_cell m5 0).trans rfl), ((blk_cell m5 1).trans rfl), ((blk_cell m5 2).trans rfl), ((blk_cell m6 0).trans rfl), ((blk_cell m6 1).trans rfl), ((blk_cell m6 2).trans rfl)⟩ (fun hHeld => ?_)
            clear hK K
            refine norm_ (a' := ?_) ?_ ?_
            rotate_left
            · show Act.put _ (some 42) _ = _
              simp only [Act.put, List.setIfInBounds_toArray, List.set_cons_zero, List.set_cons_succ, i64_w, i32_w]
              rfl
            refine pure_ (i := 10) (N := some 32) (v := ?_) (a' := ?_) #[true, true, true, true, true, true, true, true, true, true, true, false, false, false, false, false] rfl rfl (by kernel_rfl) (fun _ _ _ h => h) (Or.inl ⟨by rfl, ?_⟩) ?_ ?_
            rotate_left
            · intro w'
              go_simp
              with_reducible rfl
            rotate_left
            · simp only [Act.put, List.setIfInBounds_toArray, List.set_cons_zero, List.set_cons_succ, i64_w, i32_w]
              rfl
            refine pure_ (i := 11) (N := some 43) (v := ?_) (a' := ?_) #[true, true, true, true, true, true, true, true, true, true, true, true, false, false, false, false] rfl rfl (by kernel_rfl) (fun _ _ _ h => h) (Or.inl ⟨by rfl, ?_⟩) ?_ ?_
            rotate_left
            · intro w'
              go_simp
              with_reducible rfl
            rotate_left
            · simp only [Act.put, List.setIfInBounds_toArray, List.set_cons_zero, List.set_cons_succ, i64_w, i32_w]
              rfl
            refine pure_ (i := 12) (N := some 44) (v := ?_) (a' := ?_) #[true, true, true, true, true, true, true, true, true, true, true, true, true, false, false, false] rfl rfl (by kernel_rfl) (fun _ _ _ h => h) (Or.inl ⟨by rfl, ?_⟩) ?_ ?_
            rotate_left
            · intro w'
              go_simp
              with_reducible rfl
            rotate_left
            · simp only [Act.put, List.setIfInBounds_toArray, List.set_cons_zero, List.set_cons_succ, i64_w, i32_w]
              rfl
            refine one_ (i := 13) (N := some 7) #[true, true, true, true, true, true, true, true, true, true, true, true, true, true, false, false] rfl rfl (by kernel_rfl) (by decide) (fun K hK => ?_)
            have hn_f_7 : b ≠ w9.heap.size := by have h_ := blk_lt mf; omega
            have hn_3_7 : g3 ≠ w9.heap.size := by have h_ := blk_lt m3; omega
            have hn_5_7 : g5 ≠ w9.heap.size := by have h_ := blk_lt m5; omega
            have hn_6_7 : g6 ≠ w9.heap.size := by have h_ := blk_lt m6; omega
            have hn_R_7 : w4.heap.size ≠ w9.heap.size := by have h_ := blk_lt mR; omega
            have hn_V_7 : w4.heap.size + 1 ≠ w9.heap.size := by have h_ := blk_lt mV; omega
            have hG7 : w.heap.size ≤ w9.heap.size := by have h_ := mB.size; omega
            replace mf := blk_alloc mf (.cells #[.int .i64 0, .int .i64 0] 35)
            replace m3 := blk_alloc m3 (.cells #[.int .i64 0, .int .i64 0] 35)
            replace m5 := blk_alloc m5 (.cells #[.int .i64 0, .int .i64 0] 35)
            replace m6 := blk_alloc m6 (.cells #[.int .i64 0, .int .i64 0] 35)
            replace mR := blk_alloc mR (.cells #[.int .i64 0, .int .i64 0] 35)
            replace mV := blk_alloc mV (.cells #[.int .i64 0, .int .i64 0] 35)
            have m7 : Blk (w9.alloc (.cells #[.int .i64 0, .int .i64 0] 35)) (w9.heap.size) #[.int .i64 0, .int .i64 0] 35 := by have h_ := blk_new w9 (.cells #[.int .i64 0, .int .i64 0] 35); first | exact h_ | (simp only [World.size_alloc] at h_; exact h_)
            replace mB := below_alloc mB (.cells #[.int .i64 0, .int .i64 0] 35)
            refine value_ (w1 := ?_) (v := ?_) (by rfl) rfl ?_ ?_
            rotate_left 2
            · go_simp
              constructor
              · rfl
              · rfl
            refine hK.out _ _ ⟨((blk_cell m5 0).trans rfl), ((blk_cell m5 1).trans rfl), ((blk_cell m5 2).trans rfl), ((blk_cell m6 0).trans rfl), ((blk_cell m6 1).trans rfl), ((blk_cell m6 2).trans rfl)⟩ (fun hHeld => ?_)
            clear hK K
            refine norm_ (a' := ?_) ?_ ?_
            rotate_left
            · show Act.put _ (some 7) _ = _
              simp only [Act.put, List.setIfInBounds_toArray, List.set_cons_zero, List.set_cons_succ, i64_w, i32_w]
              rfl
            exact norm_ (by first | (simp only [putAll, Act.put, List.setIfInBounds_toArray, List.set_cons_zero, List.set_cons_succ]; done) | (simp only [putAll, Act.put, List.setIfInBounds_toArray, List.set_cons_zero, List.set_cons_succ]; rfl)) (hCont ((w4.heap.size, w4.heap.size + 1, w9.heap.size)) _ ⟨mf, m3, m5, m6, mR, mV, m7, mB, hGR, hGV, hG7, hn_f_R, hn_3_R, hn_5_R, hn_6_R, hn_f_V, hn_3_V, hn_5_V, hn_6_V, hn_R_V, hn_f_7, hn_3_7, hn_5_7, hn_6_7, hn_R_7, hn_V_7⟩)
          · skip
            have hn_f_7 : b ≠ w4.heap.size + 1 + 1 := by have h_ := blk_lt mf; simp only [World.size_alloc] at h_; omega
            have hn_3_7 : g3 ≠ w4.heap.size + 1 + 1 := by have h_ := blk_lt m3; simp only [World.size_alloc] at h_; omega
            have hn_5_7 : g5 ≠ w4.heap.size + 1 + 1 := by have h_ := blk_lt m5; simp only [World.size_alloc] at h_; omega
            have hn_6_7 : g6 ≠ w4.heap.size + 1 + 1 := by have h_ := blk_lt m6; simp only [World.size_alloc] at h_; omega
            have hn_R_7 : w4.heap.size ≠ w4.heap.size + 1 + 1 := by have h_ := blk_lt mR; simp only [World.size_alloc] at h_; omega
            have hn_V_7 : w4.heap.size + 1 ≠ w4.heap.size + 1 + 1 := by have h_ := blk_lt mV; simp only [World.size_alloc] at h_; omega
            have hG7 : w.heap.size ≤ w4.heap.size + 1 + 1 := by have h_ := mB.size; simp only [World.size_alloc] at h_; omega
            replace mf := blk_alloc mf (.cells #[.int .i64 0, .int .i64 0] 35)
            replace m3 := blk_alloc m3 (.cells #[.int .i64 0, .int .i64 0] 35)
            replace m5 := blk_alloc m5 (.cells #[.int .i64 0, .int .i64 0] 35)
            replace m6 := blk_alloc m6 (.cells #[.int .i64 0, .int .i64 0] 35)
            replace mR := blk_alloc mR (.cells #[.int .i64 0, .int .i64 0] 35)
            replace mV := blk_alloc mV (.cells #[.int .i64 0, .int .i64 0] 35)
            have m7 : Blk (((w4.alloc (.cells #[.int .i64 (seenI rate Ai Ak.f1).f0, .int .i64 (seenI rate Ai Ak.f1).f1, .int .i64 Ak.f0.f0, .int .i64 Ak.f0.f1] 35)).alloc (.cells #[.slice (some ⟨w4.heap.size, 0, none⟩) 2 2] 65)).alloc (.cells #[.int .i64 0, .int .i64 0] 35)) (w4.heap.size + 1 + 1) #[.int .i64 0, .int .i64 0] 35 := by have h_ := blk_new ((w4.alloc (.cells #[.int .i64 (seenI rate Ai Ak.f1).f0, .int .i64 (seenI rate Ai Ak.f1).f1, .int .i64 Ak.f0.f0, .int .i64 Ak.f0.f1] 35)).alloc (.cells #[.slice (some ⟨w4.heap.size, 0, none⟩) 2 2] 65)) (.cells #[.int .i64 0, .int .i64 0] 35); first | exact h_ | (simp only [World.size_alloc] at h_; exact h_)
            replace mB := below_alloc mB (.cells #[.int .i64 0, .int .i64 0] 35)
            refine value_ (w1 := ?_) (v := ?_) (by rfl) rfl ?_ ?_
            rotate_left 2
            · go_simp
              constructor
              · rfl
              · rfl
            refine hK.out _ _ ⟨((blk_cell m5 0).trans rfl), ((blk_cell m5 1).trans rfl), ((blk_cell m5 2).trans rfl), ((blk_cell m6 0).trans rfl), ((blk_cell m6 1).trans rfl), ((blk_cell m6 2).trans rfl)⟩ (fun hHeld => ?_)
            clear hK K
            refine norm_ (a' := ?_) ?_ ?_
            rotate_left
            · show Act.put _ (some 7) _ = _
              simp only [Act.put, List.setIfInBounds_toArray, List.set_cons_zero, List.set_cons_succ, i64_w, i32_w]
              rfl
            refine one_ (i := 9) (N := some 42) #[true, true, true, true, true, true, true, true, true, true, false, false, false, true, false, false] rfl rfl (by kernel_rfl) (by decide) (fun K hK => ?_)
            have hcon_ := meet35_any 101 85 #[.pointer (some ⟨w4.heap.size + 1, 0, none⟩)] #[] (((w4.alloc (.cells #[.int .i64 (seenI rate Ai Ak.f1).f0, .int .i64 (seenI rate Ai Ak.f1).f1, .int .i64 Ak.f0.f0, .int .i64 Ak.f0.f1] 35)).alloc (.cells #[.slice (some ⟨w4.heap.size, 0, none⟩) 2 2] 65)).alloc (.cells #[.int .i64 0, .int .i64 0] 35)) [(seenI rate Ai Ak.f1), Ak.f0] id (enters_of Try.func101 (by kernel_rfl) rfl) (enters_of Try.func85 (by kernel_rfl) rfl) (fun W_ hb_ => values35_stops 5 (by omega) (w4.heap.size + 1) (((w4.alloc (.cells #[.int .i64 (seenI rate Ai Ak.f1).f0, .int .i64 (seenI rate Ai Ak.f1).f1, .int .i64 Ak.f0.f0, .int .i64 Ak.f0.f1] 35)).alloc (.cells #[.slice (some ⟨w4.heap.size, 0, none⟩) 2 2] 65)).alloc (.cells #[.int .i64 0, .int .i64 0] 35)) W_ (some ⟨w4.heap.size, 0, none⟩) 2 [(seenI rate Ai Ak.f1), Ak.f0] (by simp) (C_two (x := (seenI rate Ai Ak.f1)) (y := Ak.f0) mR) hb_ (Nat.lt_of_lt_of_le (blk_lt mV) hb_.size) ((blk_cell (blk_below mV hb_) 0).trans rfl)) itself_span
            refine goes_ Try.func83 (by kernel_rfl) rfl #[.func (.func 101) #[] #[.pointer (some ⟨w4.heap.size + 1, 0, none⟩)], .func (.func 85) #[] #[]] (by rfl) rfl rfl (by simp only [List.map_toArray, List.map_cons, List.map_nil]; rfl) ?_
            with_reducible refine (hcon_).mono ?_
            rintro e w9 ⟨rfl, hb⟩
            refine ⟨_, rfl, ?_⟩
            clear hcon_
            replace mf := blk_below mf hb
            replace m3 := blk_below m3 hb
            replace m5 := blk_below m5 hb
            replace m6 := blk_below m6 hb
            replace mR := blk_below mR hb
            replace mV := blk_below mV hb
            replace m7 := blk_below m7 hb
            replace mB := below_step mB hb
            clear hb
            refine hK.out _ _ ⟨((blk_cell m5 0).trans rfl), ((blk_cell m5 1).trans rfl), ((blk_cell m5 2).trans rfl), ((blk_cell m6 0).trans rfl), ((blk_cell m6 1).trans rfl), ((blk_cell m6 2).trans rfl)⟩ (fun hHeld => ?_)
            clear hK K
            refine norm_ (a' := ?_) ?_ ?_
            rotate_left
            · show Act.put _ (some 42) _ = _
              simp only [Act.put, List.setIfInBounds_toArray, List.set_cons_zero, List.set_cons_succ, i64_w, i32_w]
              rfl
            refine pure_ (i := 10) (N := some 32) (v := ?_) (a' := ?_) #[true, true, true, true, true, true, true, true, true, true, true, false, false, true, false, false] rfl rfl (by kernel_rfl) (fun _ _ _ h => h) (Or.inl ⟨by rfl, ?_⟩) ?_ ?_
            rotate_left
            · intro w'
              go_simp
              with_reducible rfl
            rotate_left
            · simp only [Act.put, List.setIfInBounds_toArray, List.set_cons_zero, List.set_cons_succ, i64_w, i32_w]
              rfl
            refine pure_ (i := 11) (N := some 43) (v := ?_) (a' := ?_) #[true, true, true, true, true, true, true, true, true, true, true, true, false, true, false, false] rfl rfl (by kernel_rfl) (fun _ _ _ h => h) (Or.inl ⟨by rfl, ?_⟩) ?_ ?_
            rotate_left
            · intro w'
              go_simp
              with_reducible rfl
            rotate_left
            · simp only [Act.put, List.setIfInBounds_toArray, List.set_cons_zero, List.set_cons_succ, i64_w, i32_w]
              rfl
            refine pure_ (i := 12) (N := some 44) (v := ?_) (a' := ?_) #[true, true, true, true, true, true, true, true, true, true, true, true, true, true, false, false] rfl rfl (by kernel_rfl) (fun _ _ _ h => h) (Or.inl ⟨by rfl, ?_⟩) ?_ ?_
            rotate_left
            · intro w'
              go_simp
              with_reducible rfl
            rotate_left
            · simp only [Act.put, List.setIfInBounds_toArray, List.set_cons_zero, List.set_cons_succ, i64_w, i32_w]
              rfl
            exact norm_ (by first | (simp only [putAll, Act.put, List.setIfInBounds_toArray, List.set_cons_zero, List.set_cons_succ]; done) | (simp only [putAll, Act.put, List.setIfInBounds_toArray, List.set_cons_zero, List.set_cons_succ]; rfl)) (hCont ((w4.heap.size, w4.heap.size + 1, w4.heap.size + 1 + 1)) _ ⟨mf, m3, m5, m6, mR, mV, m7, mB, hGR, hGV, hG7, hn_f_R, hn_3_R, hn_5_R, hn_6_R, hn_f_V, hn_3_V, hn_5_V, hn_6_V, hn_R_V, hn_f_7, hn_3_7, hn_5_7, hn_6_7, hn_R_7, hn_V_7⟩)
        · skip
          have hn_f_7 : b ≠ w4.heap.size + 1 := by have h_ := blk_lt mf; simp only [World.size_alloc] at h_; omega
          have hn_3_7 : g3 ≠ w4.heap.size + 1 := by have h_ := blk_lt m3; simp only [World.size_alloc] at h_; omega
          have hn_5_7 : g5 ≠ w4.heap.size + 1 := by have h_ := blk_lt m5; simp only [World.size_alloc] at h_; omega
          have hn_6_7 : g6 ≠ w4.heap.size + 1 := by have h_ := blk_lt m6; simp only [World.size_alloc] at h_; omega
          have hn_R_7 : w4.heap.size ≠ w4.heap.size + 1 := by have h_ := blk_lt mR; simp only [World.size_alloc] at h_; omega
          have hG7 : w.heap.size ≤ w4.heap.size + 1 := by have h_ := mB.size; simp only [World.size_alloc] at h_; omega
          replace mf := blk_alloc mf (.cells #[.int .i64 0, .int .i64 0] 35)
          replace m3 := blk_alloc m3 (.cells #[.int .i64 0, .int .i64 0] 35)
          replace m5 := blk_alloc m5 (.cells #[.int .i64 0, .int .i64 0] 35)
          replace m6 := blk_alloc m6 (.cells #[.int .i64 0, .int .i64 0] 35)
          replace mR := blk_alloc mR (.cells #[.int .i64 0, .int .i64 0] 35)
          have m7 : Blk ((w4.alloc (.cells #[.int .i64 (seenI rate Ai Ak.f1).f0, .int .i64 (seenI rate Ai Ak.f1).f1, .int .i64 Ak.f0.f0, .int .i64 Ak.f0.f1] 35)).alloc (.cells #[.int .i64 0, .int .i64 0] 35)) (w4.heap.size + 1) #[.int .i64 0, .int .i64 0] 35 := by have h_ := blk_new (w4.alloc (.cells #[.int .i64 (seenI rate Ai Ak.f1).f0, .int .i64 (seenI rate Ai Ak.f1).f1, .int .i64 Ak.f0.f0, .int .i64 Ak.f0.f1] 35)) (.cells #[.int .i64 0, .int .i64 0] 35); first | exact h_ | (simp only [World.size_alloc] at h_; exact h_)
          replace mB := below_alloc mB (.cells #[.int .i64 0, .int .i64 0] 35)
          refine value_ (w1 := ?_) (v := ?_) (by rfl) rfl ?_ ?_
          rotate_left 2
          · go_simp
            constructor
            · rfl
            · rfl
          refine hK.out _ _ ⟨((blk_cell m5 0).trans rfl), ((blk_cell m5 1).trans rfl), ((blk_cell m5 2).trans rfl), ((blk_cell m6 0).trans rfl), ((blk_cell m6 1).trans rfl), ((blk_cell m6 2).trans rfl)⟩ (fun hHeld => ?_)
          clear hK K
          refine norm_ (a' := ?_) ?_ ?_
          rotate_left
          · show Act.put _ (some 7) _ = _
            simp only [Act.put, List.setIfInBounds_toArray, List.set_cons_zero, List.set_cons_succ, i64_w, i32_w]
            rfl
          refine one_ (i := 8) (N := some 41) #[true, true, true, true, true, true, true, true, true, false, false, false, false, true, false, false] rfl rfl (by kernel_rfl) (by decide) (fun K hK => ?_)
          have hcon_ := values35_at (some ⟨w4.heap.size, 0, none⟩) 2 2 (w4.heap.size + 1 + 1) ((w4.alloc (.cells #[.int .i64 (seenI rate Ai Ak.f1).f0, .int .i64 (seenI rate Ai Ak.f1).f1, .int .i64 Ak.f0.f0, .int .i64 Ak.f0.f1] 35)).alloc (.cells #[.int .i64 0, .int .i64 0] 35)) (by first | rfl | simp only [World.size_alloc])
          have hn_f_V : b ≠ w4.heap.size + 1 + 1 := by have h_ := blk_lt mf; simp only [World.size_alloc] at h_; omega
          have hn_3_V : g3 ≠ w4.heap.size + 1 + 1 := by have h_ := blk_lt m3; simp only [World.size_alloc] at h_; omega
          have hn_5_V : g5 ≠ w4.heap.size + 1 + 1 := by have h_ := blk_lt m5; simp only [World.size_alloc] at h_; omega
          have hn_6_V : g6 ≠ w4.heap.size + 1 + 1 := by have h_ := blk_lt m6; simp only [World.size_alloc] at h_; omega
          have hn_R_V : w4.heap.size ≠ w4.heap.size + 1 + 1 := by have h_ := blk_lt mR; simp only [World.size_alloc] at h_; omega
          have hn_7_V : w4.heap.size + 1 ≠ w4.heap.size + 1 + 1 := by have h_ := blk_lt m7; simp only [World.size_alloc] at h_; omega
          have hGV : w.heap.size ≤ w4.heap.size + 1 + 1 := by have h_ := mB.size; simp only [World.size_alloc] at h_; omega
          replace mf := blk_alloc mf (.cells #[.slice (some ⟨w4.heap.size, 0, none⟩) 2 2] 65)
          replace m3 := blk_alloc m3 (.cells #[.slice (some ⟨w4.heap.size, 0, none⟩) 2 2] 65)
          replace m5 := blk_alloc m5 (.cells #[.slice (some ⟨w4.heap.size, 0, none⟩) 2 2] 65)
          replace m6 := blk_alloc m6 (.cells #[.slice (some ⟨w4.heap.size, 0, none⟩) 2 2] 65)
          replace mR := blk_alloc mR (.cells #[.slice (some ⟨w4.heap.size, 0, none⟩) 2 2] 65)
          replace m7 := blk_alloc m7 (.cells #[.slice (some ⟨w4.heap.size, 0, none⟩) 2 2] 65)
          have mV : Blk (((w4.alloc (.cells #[.int .i64 (seenI rate Ai Ak.f1).f0, .int .i64 (seenI rate Ai Ak.f1).f1, .int .i64 Ak.f0.f0, .int .i64 Ak.f0.f1] 35)).alloc (.cells #[.int .i64 0, .int .i64 0] 35)).alloc (.cells #[.slice (some ⟨w4.heap.size, 0, none⟩) 2 2] 65)) (w4.heap.size + 1 + 1) #[.slice (some ⟨w4.heap.size, 0, none⟩) 2 2] 65 := by have h_ := blk_new ((w4.alloc (.cells #[.int .i64 (seenI rate Ai Ak.f1).f0, .int .i64 (seenI rate Ai Ak.f1).f1, .int .i64 Ak.f0.f0, .int .i64 Ak.f0.f1] 35)).alloc (.cells #[.int .i64 0, .int .i64 0] 35)) (.cells #[.slice (some ⟨w4.heap.size, 0, none⟩) 2 2] 65); first | exact h_ | (simp only [World.size_alloc] at h_; exact h_)
          replace mB := below_alloc mB (.cells #[.slice (some ⟨w4.heap.size, 0, none⟩) 2 2] 65)
          refine goes_ Try.func84 (by kernel_rfl) rfl #[.slice (some ⟨w4.heap.size, 0, none⟩) 2 2] (by rfl) rfl rfl (by simp only [List.map_toArray, List.map_cons, List.map_nil]; rfl) ?_
          with_reducible refine (hcon_).mono ?_
          rintro e W_ ⟨rfl, rfl⟩
          refine ⟨_, rfl, ?_⟩
          clear hcon_
          refine hK.out _ _ ⟨((blk_cell m5 0).trans rfl), ((blk_cell m5 1).trans rfl), ((blk_cell m5 2).trans rfl), ((blk_cell m6 0).trans rfl), ((blk_cell m6 1).trans rfl), ((blk_cell m6 2).trans rfl)⟩ (fun hHeld => ?_)
          clear hK K
          refine norm_ (a' := ?_) ?_ ?_
          rotate_left
          · show Act.put _ (some 41) _ = _
            simp only [Act.put, List.setIfInBounds_toArray, List.set_cons_zero, List.set_cons_succ, i64_w, i32_w]
            rfl
          refine one_ (i := 9) (N := some 42) #[true, true, true, true, true, true, true, true, true, true, false, false, false, true, false, false] rfl rfl (by kernel_rfl) (by decide) (fun K hK => ?_)
          have hcon_ := meet35_any 101 85 #[.pointer (some ⟨w4.heap.size + 1 + 1, 0, none⟩)] #[] (((w4.alloc (.cells #[.int .i64 (seenI rate Ai Ak.f1).f0, .int .i64 (seenI rate Ai Ak.f1).f1, .int .i64 Ak.f0.f0, .int .i64 Ak.f0.f1] 35)).alloc (.cells #[.int .i64 0, .int .i64 0] 35)).alloc (.cells #[.slice (some ⟨w4.heap.size, 0, none⟩) 2 2] 65)) [(seenI rate Ai Ak.f1), Ak.f0] id (enters_of Try.func101 (by kernel_rfl) rfl) (enters_of Try.func85 (by kernel_rfl) rfl) (fun W_ hb_ => values35_stops 5 (by omega) (w4.heap.size + 1 + 1) (((w4.alloc (.cells #[.int .i64 (seenI rate Ai Ak.f1).f0, .int .i64 (seenI rate Ai Ak.f1).f1, .int .i64 Ak.f0.f0, .int .i64 Ak.f0.f1] 35)).alloc (.cells #[.int .i64 0, .int .i64 0] 35)).alloc (.cells #[.slice (some ⟨w4.heap.size, 0, none⟩) 2 2] 65)) W_ (some ⟨w4.heap.size, 0, none⟩) 2 [(seenI rate Ai Ak.f1), Ak.f0] (by simp) (C_two (x := (seenI rate Ai Ak.f1)) (y := Ak.f0) mR) hb_ (Nat.lt_of_lt_of_le (blk_lt mV) hb_.size) ((blk_cell (blk_below mV hb_) 0).trans rfl)) itself_span
          refine goes_ Try.func83 (by kernel_rfl) rfl #[.func (.func 101) #[] #[.pointer (some ⟨w4.heap.size + 1 + 1, 0, none⟩)], .func (.func 85) #[] #[]] (by rfl) rfl rfl (by simp only [List.map_toArray, List.map_cons, List.map_nil]; rfl) ?_
          with_reducible refine (hcon_).mono ?_
          rintro e w9 ⟨rfl, hb⟩
          refine ⟨_, rfl, ?_⟩
          clear hcon_
          replace mf := blk_below mf hb
          replace m3 := blk_below m3 hb
          replace m5 := blk_below m5 hb
          replace m6 := blk_below m6 hb
          replace mR := blk_below mR hb
          replace m7 := blk_below m7 hb
          replace mV := blk_below mV hb
          replace mB := below_step mB hb
          clear hb
          refine hK.out _ _ ⟨((blk_cell m5 0).trans rfl), ((blk_cell m5 1).trans rfl), ((blk_cell m5 2).trans rfl), ((blk_cell m6 0).trans rfl), ((blk_cell m6 1).trans rfl), ((blk_cell m6 2).trans rfl)⟩ (fun hHeld => ?_)
          clear hK K
          refine norm_ (a' := ?_) ?_ ?_
          rotate_left
          · show Act.put _ (some 42) _ = _
            simp only [Act.put, List.setIfInBounds_toArray, List.set_cons_zero, List.set_cons_succ, i64_w, i32_w]
            rfl
          refine pure_ (i := 10) (N := some 32) (v := ?_) (a' := ?_) #[true, true, true, true, true, true, true, true, true, true, true, false, false, true, false, false] rfl rfl (by kernel_rfl) (fun _ _ _ h => h) (Or.inl ⟨by rfl, ?_⟩) ?_ ?_
          rotate_left
          · intro w'
            go_simp
            with_reducible rfl
          rotate_left
          · simp only [Act.put, List.setIfInBounds_toArray, List.set_cons_zero, List.set_cons_succ, i64_w, i32_w]
            rfl
          refine pure_ (i := 11) (N := some 43) (v := ?_) (a' := ?_) #[true, true, true, true, true, true, true, true, true, true, true, true, false, true, false, false] rfl rfl (by kernel_rfl) (fun _ _ _ h => h) (Or.inl ⟨by rfl, ?_⟩) ?_ ?_
          rotate_left
          · intro w'
            go_simp
            with_reducible rfl
          rotate_left
          · simp only [Act.put, List.setIfInBounds_toArray, List.set_cons_zero, List.set_cons_succ, i64_w, i32_w]
            rfl
          refine pure_ (i := 12) (N := some 44) (v := ?_) (a' := ?_) #[true, true, true, true, true, true, true, true, true, true, true, true, true, true, false, false] rfl rfl (by kernel_rfl) (fun _ _ _ h => h) (Or.inl ⟨by rfl, ?_⟩) ?_ ?_
          rotate_left
          · intro w'
            go_simp
            with_reducible rfl
          rotate_left
          · simp only [Act.put, List.setIfInBounds_toArray, List.set_cons_zero, List.set_cons_succ, i64_w, i32_w]
            rfl
          exact norm_ (by first | (simp only [putAll, Act.put, List.setIfInBounds_toArray, List.set_cons_zero, List.set_cons_succ]; done) | (simp only [putAll, Act.put, List.setIfInBounds_toArray, List.set_cons_zero, List.set_cons_succ]; rfl)) (hCont ((w4.heap.size, w4.heap.size + 1 + 1, w4.heap.size + 1)) _ ⟨mf, m3, m5, m6, mR, mV, m7, mB, hGR, hGV, hG7, hn_f_R, hn_3_R, hn_5_R, hn_6_R, hn_f_V, hn_3_V, hn_5_V, hn_6_V, hn_R_V, hn_f_7, hn_3_7, hn_5_7, hn_6_7, hn_R_7, hn_7_V.symm⟩)
      · skip
        have hn_f_7 : b ≠ w4.heap.size := by have h_ := blk_lt mf; omega
        have hn_3_7 : g3 ≠ w4.heap.size := by have h_ := blk_lt m3; omega
        have hn_5_7 : g5 ≠ w4.heap.size := by have h_ := blk_lt m5; omega
        have hn_6_7 : g6 ≠ w4.heap.size := by have h_ := blk_lt m6; omega
        have hG7 : w.heap.size ≤ w4.heap.size := by have h_ := mB.size; omega
        replace mf := blk_alloc mf (.cells #[.int .i64 0, .int .i64 0] 35)
        replace m3 := blk_alloc m3 (.cells #[.int .i64 0, .int .i64 0] 35)
        replace m5 := blk_alloc m5 (.cells #[.int .i64 0, .int .i64 0] 35)
        replace m6 := blk_alloc m6 (.cells #[.int .i64 0, .int .i64 0] 35)
        have m7 : Blk (w4.alloc (.cells #[.int .i64 0, .int .i64 0] 35)) (w4.heap.size) #[.int .i64 0, .int .i64 0] 35 := by have h_ := blk_new w4 (.cells #[.int .i64 0, .int .i64 0] 35); first | exact h_ | (simp only [World.size_alloc] at h_; exact h_)
        replace mB := below_alloc mB (.cells #[.int .i64 0, .int .i64 0] 35)
        refine value_ (w1 := ?_) (v := ?_) (by rfl) rfl ?_ ?_
        rotate_left 2
        · go_simp
          constructor
          · rfl
          · rfl
        refine hK.out _ _ ⟨((blk_cell m5 0).trans rfl), ((blk_cell m5 1).trans rfl), ((blk_cell m5 2).trans rfl), ((blk_cell m6 0).trans rfl), ((blk_cell m6 1).trans rfl), ((blk_cell m6 2).trans rfl)⟩ (fun hHeld => ?_)
        clear hK K
        refine norm_ (a' := ?_) ?_ ?_
        rotate_left
        · show Act.put _ (some 7) _ = _
          simp only [Act.put, List.setIfInBounds_toArray, List.set_cons_zero, List.set_cons_succ, i64_w, i32_w]
          rfl
        refine one_ (i := 7) (N := some 40) #[true, true, true, true, true, true, true, true, false, false, false, false, false, true, false, false] rfl rfl (by kernel_rfl) (by decide) (fun K hK => ?_)
        have hn_f_R : b ≠ w4.heap.size + 1 := by have h_ := blk_lt mf; simp only [World.size_alloc] at h_; omega
        have hn_3_R : g3 ≠ w4.heap.size + 1 := by have h_ := blk_lt m3; simp only [World.size_alloc] at h_; omega
        have hn_5_R : g5 ≠ w4.heap.size + 1 := by have h_ := blk_lt m5; simp only [World.size_alloc] at h_; omega
        have hn_6_R : g6 ≠ w4.heap.size + 1 := by have h_ := blk_lt m6; simp only [World.size_alloc] at h_; omega
        have hn_7_R : w4.heap.size ≠ w4.heap.size + 1 := by have h_ := blk_lt m7; simp only [World.size_alloc] at h_; omega
        have hGR : w.heap.size ≤ w4.heap.size + 1 := by have h_ := mB.size; simp only [World.size_alloc] at h_; omega
        replace mf := blk_alloc mf (.cells #[.int .i64 (seenI rate Ai Ak.f1).f0, .int .i64 (seenI rate Ai Ak.f1).f1, .int .i64 Ak.f0.f0, .int .i64 Ak.f0.f1] 35)
        replace m3 := blk_alloc m3 (.cells #[.int .i64 (seenI rate Ai Ak.f1).f0, .int .i64 (seenI rate Ai Ak.f1).f1, .int .i64 Ak.f0.f0, .int .i64 Ak.f0.f1] 35)
        replace m5 := blk_alloc m5 (.cells #[.int .i64 (seenI rate Ai Ak.f1).f0, .int .i64 (seenI rate Ai Ak.f1).f1, .int .i64 Ak.f0.f0, .int .i64 Ak.f0.f1] 35)
        replace m6 := blk_alloc m6 (.cells #[.int .i64 (seenI rate Ai Ak.f1).f0, .int .i64 (seenI rate Ai Ak.f1).f1, .int .i64 Ak.f0.f0, .int .i64 Ak.f0.f1] 35)
        replace m7 := blk_alloc m7 (.cells #[.int .i64 (seenI rate Ai Ak.f1).f0, .int .i64 (seenI rate Ai Ak.f1).f1, .int .i64 Ak.f0.f0, .int .i64 Ak.f0.f1] 35)
        have mR : Blk ((w4.alloc (.cells #[.int .i64 0, .int .i64 0] 35)).alloc (.cells #[.int .i64 (seenI rate Ai Ak.f1).f0, .int .i64 (seenI rate Ai Ak.f1).f1, .int .i64 Ak.f0.f0, .int .i64 Ak.f0.f1] 35)) (w4.heap.size + 1) #[.int .i64 (seenI rate Ai Ak.f1).f0, .int .i64 (seenI rate Ai Ak.f1).f1, .int .i64 Ak.f0.f0, .int .i64 Ak.f0.f1] 35 := by have h_ := blk_new (w4.alloc (.cells #[.int .i64 0, .int .i64 0] 35)) (.cells #[.int .i64 (seenI rate Ai Ak.f1).f0, .int .i64 (seenI rate Ai Ak.f1).f1, .int .i64 Ak.f0.f0, .int .i64 Ak.f0.f1] 35); first | exact h_ | (simp only [World.size_alloc] at h_; exact h_)
        replace mB := below_alloc mB (.cells #[.int .i64 (seenI rate Ai Ak.f1).f0, .int .i64 (seenI rate Ai Ak.f1).f1, .int .i64 Ak.f0.f0, .int .i64 Ak.f0.f1] 35)
        refine value_ (w1 := ?_) (v := ?_) (by rfl) rfl ?_ ?_
        rotate_left 2
        · go_simp
          constructor
          · rfl
          · rfl
        refine hK.out _ _ ⟨((blk_cell m5 0).trans rfl), ((blk_cell m5 1).trans rfl), ((blk_cell m5 2).trans rfl), ((blk_cell m6 0).trans rfl), ((blk_cell m6 1).trans rfl), ((blk_cell m6 2).trans rfl)⟩ (fun hHeld => ?_)
        clear hK K
        refine norm_ (a' := ?_) ?_ ?_
        rotate_left
        · show Act.put _ (some 40) _ = _
          simp only [Act.put, List.setIfInBounds_toArray, List.set_cons_zero, List.set_cons_succ, i64_w, i32_w]
          rfl
        refine one_ (i := 8) (N := some 41) #[true, true, true, true, true, true, true, true, true, false, false, false, false, true, false, false] rfl rfl (by kernel_rfl) (by decide) (fun K hK => ?_)
        have hcon_ := values35_at (some ⟨w4.heap.size + 1, 0, none⟩) 2 2 (w4.heap.size + 1 + 1) ((w4.alloc (.cells #[.int .i64 0, .int .i64 0] 35)).alloc (.cells #[.int .i64 (seenI rate Ai Ak.f1).f0, .int .i64 (seenI rate Ai Ak.f1).f1, .int .i64 Ak.f0.f0, .int .i64 Ak.f0.f1] 35)) (by first | rfl | simp only [World.size_alloc])
        have hn_f_V : b ≠ w4.heap.size + 1 + 1 := by have h_ := blk_lt mf; simp only [World.size_alloc] at h_; omega
        have hn_3_V : g3 ≠ w4.heap.size + 1 + 1 := by have h_ := blk_lt m3; simp only [World.size_alloc] at h_; omega
        have hn_5_V : g5 ≠ w4.heap.size + 1 + 1 := by have h_ := blk_lt m5; simp only [World.size_alloc] at h_; omega
        have hn_6_V : g6 ≠ w4.heap.size + 1 + 1 := by have h_ := blk_lt m6; simp only [World.size_alloc] at h_; omega
        have hn_7_V : w4.heap.size ≠ w4.heap.size + 1 + 1 := by have h_ := blk_lt m7; simp only [World.size_alloc] at h_; omega
        have hn_R_V : w4.heap.size + 1 ≠ w4.heap.size + 1 + 1 := by have h_ := blk_lt mR; simp only [World.size_alloc] at h_; omega
        have hGV : w.heap.size ≤ w4.heap.size + 1 + 1 := by have h_ := mB.size; simp only [World.size_alloc] at h_; omega
        replace mf := blk_alloc mf (.cells #[.slice (some ⟨w4.heap.size + 1, 0, none⟩) 2 2] 65)
        replace m3 := blk_alloc m3 (.cells #[.slice (some ⟨w4.heap.size + 1, 0, none⟩) 2 2] 65)
        replace m5 := blk_alloc m5 (.cells #[.slice (some ⟨w4.heap.size + 1, 0, none⟩) 2 2] 65)
        replace m6 := blk_alloc m6 (.cells #[.slice (some ⟨w4.heap.size + 1, 0, none⟩) 2 2] 65)
        replace m7 := blk_alloc m7 (.cells #[.slice (some ⟨w4.heap.size + 1, 0, none⟩) 2 2] 65)
        replace mR := blk_alloc mR (.cells #[.slice (some ⟨w4.heap.size + 1, 0, none⟩) 2 2] 65)
        have mV : Blk (((w4.alloc (.cells #[.int .i64 0, .int .i64 0] 35)).alloc (.cells #[.int .i64 (seenI rate Ai Ak.f1).f0, .int .i64 (seenI rate Ai Ak.f1).f1, .int .i64 Ak.f0.f0, .int .i64 Ak.f0.f1] 35)).alloc (.cells #[.slice (some ⟨w4.heap.size + 1, 0, none⟩) 2 2] 65)) (w4.heap.size + 1 + 1) #[.slice (some ⟨w4.heap.size + 1, 0, none⟩) 2 2] 65 := by have h_ := blk_new ((w4.alloc (.cells #[.int .i64 0, .int .i64 0] 35)).alloc (.cells #[.int .i64 (seenI rate Ai Ak.f1).f0, .int .i64 (seenI rate Ai Ak.f1).f1, .int .i64 Ak.f0.f0, .int .i64 Ak.f0.f1] 35)) (.cells #[.slice (some ⟨w4.heap.size + 1, 0, none⟩) 2 2] 65); first | exact h_ | (simp only [World.size_alloc] at h_; exact h_)
        replace mB := below_alloc mB (.cells #[.slice (some ⟨w4.heap.size + 1, 0, none⟩) 2 2] 65)
        refine goes_ Try.func84 (by kernel_rfl) rfl #[.slice (some ⟨w4.heap.size + 1, 0, none⟩) 2 2] (by rfl) rfl rfl (by simp only [List.map_toArray, List.map_cons, List.map_nil]; rfl) ?_
        with_reducible refine (hcon_).mono ?_
        rintro e W_ ⟨rfl, rfl⟩
        refine ⟨_, rfl, ?_⟩
        clear hcon_
        refine hK.out _ _ ⟨((blk_cell m5 0).trans rfl), ((blk_cell m5 1).trans rfl), ((blk_cell m5 2).trans rfl), ((blk_cell m6 0).trans rfl), ((blk_cell m6 1).trans rfl), ((blk_cell m6 2).trans rfl)⟩ (fun hHeld => ?_)
        clear hK K
        refine norm_ (a' := ?_) ?_ ?_
        rotate_left
        · show Act.put _ (some 41) _ = _
          simp only [Act.put, List.setIfInBounds_toArray, List.set_cons_zero, List.set_cons_succ, i64_w, i32_w]
          rfl
        refine one_ (i := 9) (N := some 42) #[true, true, true, true, true, true, true, true, true, true, false, false, false, true, false, false] rfl rfl (by kernel_rfl) (by decide) (fun K hK => ?_)
        have hcon_ := meet35_any 101 85 #[.pointer (some ⟨w4.heap.size + 1 + 1, 0, none⟩)] #[] (((w4.alloc (.cells #[.int .i64 0, .int .i64 0] 35)).alloc (.cells #[.int .i64 (seenI rate Ai Ak.f1).f0, .int .i64 (seenI rate Ai Ak.f1).f1, .int .i64 Ak.f0.f0, .int .i64 Ak.f0.f1] 35)).alloc (.cells #[.slice (some ⟨w4.heap.size + 1, 0, none⟩) 2 2] 65)) [(seenI rate Ai Ak.f1), Ak.f0] id (enters_of Try.func101 (by kernel_rfl) rfl) (enters_of Try.func85 (by kernel_rfl) rfl) (fun W_ hb_ => values35_stops 5 (by omega) (w4.heap.size + 1 + 1) (((w4.alloc (.cells #[.int .i64 0, .int .i64 0] 35)).alloc (.cells #[.int .i64 (seenI rate Ai Ak.f1).f0, .int .i64 (seenI rate Ai Ak.f1).f1, .int .i64 Ak.f0.f0, .int .i64 Ak.f0.f1] 35)).alloc (.cells #[.slice (some ⟨w4.heap.size + 1, 0, none⟩) 2 2] 65)) W_ (some ⟨w4.heap.size + 1, 0, none⟩) 2 [(seenI rate Ai Ak.f1), Ak.f0] (by simp) (C_two (x := (seenI rate Ai Ak.f1)) (y := Ak.f0) mR) hb_ (Nat.lt_of_lt_of_le (blk_lt mV) hb_.size) ((blk_cell (blk_below mV hb_) 0).trans rfl)) itself_span
        refine goes_ Try.func83 (by kernel_rfl) rfl #[.func (.func 101) #[] #[.pointer (some ⟨w4.heap.size + 1 + 1, 0, none⟩)], .func (.func 85) #[] #[]] (by rfl) rfl rfl (by simp only [List.map_toArray, List.map_cons, List.map_nil]; rfl) ?_
        with_reducible refine (hcon_).mono ?_
        rintro e w9 ⟨rfl, hb⟩
        refine ⟨_, rfl, ?_⟩
        clear hcon_
        replace mf := blk_below mf hb
        replace m3 := blk_below m3 hb
        replace m5 := blk_below m5 hb
        replace m6 := blk_below m6 hb
        replace m7 := blk_below m7 hb
        replace mR := blk_below mR hb
        replace mV := blk_below mV hb
        replace mB := below_step mB hb
        clear hb
        refine hK.out _ _ ⟨((blk_cell m5 0).trans rfl), ((blk_cell m5 1).trans rfl), ((blk_cell m5 2).trans rfl), ((blk_cell m6 0).trans rfl), ((blk_cell m6 1).trans rfl), ((blk_cell m6 2).trans rfl)⟩ (fun hHeld => ?_)
        clear hK K
        refine norm_ (a' := ?_) ?_ ?_
        rotate_left
        · show Act.put _ (some 42) _ = _
          simp only [Act.put, List.setIfInBounds_toArray, List.set_cons_zero, List.set_cons_succ, i64_w, i32_w]
          rfl
        refine pure_ (i := 10) (N := some 32) (v := ?_) (a' := ?_) #[true, true, true, true, true, true, true, true, true, true, true, false, false, true, false, false] rfl rfl (by kernel_rfl) (fun _ _ _ h => h) (Or.inl ⟨by rfl, ?_⟩) ?_ ?_
        rotate_left
        · intro w'
          go_simp
          with_reducible rfl
        rotate_left
        · simp only [Act.put, List.setIfInBounds_toArray, List.set_cons_zero, List.set_cons_succ, i64_w, i32_w]
          rfl
        refine pure_ (i := 11) (N := some 43) (v := ?_) (a' := ?_) #[true, true, true, true, true, true, true, true, true, true, true, true, false, true, false, false] rfl rfl (by kernel_rfl) (fun _ _ _ h => h) (Or.inl ⟨by rfl, ?_⟩) ?_ ?_
        rotate_left
        · intro w'
          go_simp
          with_reducible rfl
        rotate_left
        · simp only [Act.put, List.setIfInBounds_toArray, List.set_cons_zero, List.set_cons_succ, i64_w, i32_w]
          rfl
        refine pure_ (i := 12) (N := some 44) (v := ?_) (a' := ?_) #[true, true, true, true, true, true, true, true, true, true, true, true, true, true, false, false] rfl rfl (by kernel_rfl) (fun _ _ _ h => h) (Or.inl ⟨by rfl, ?_⟩) ?_ ?_
        rotate_left
        · intro w'
          go_simp
          with_reducible rfl
        rotate_left
        · simp only [Act.put, List.setIfInBounds_toArray, List.set_cons_zero, List.set_cons_succ, i64_w, i32_w]
          rfl
        exact norm_ (by first | (simp only [putAll, Act.put, List.setIfInBounds_toArray, List.set_cons_zero, List.set_cons_succ]; done) | (simp only [putAll, Act.put, List.setIfInBounds_toArray, List.set_cons_zero, List.set_cons_succ]; rfl)) (hCont ((w4.heap.size + 1, w4.heap.size + 1 + 1, w4.heap.size)) _ ⟨mf, m3, m5, m6, mR, mV, m7, mB, hGR, hGV, hG7, hn_f_R, hn_3_R, hn_5_R, hn_6_R, hn_f_V, hn_3_V, hn_5_V, hn_6_V, hn_R_V, hn_f_7, hn_3_7, hn_5_7, hn_6_7, hn_7_R.symm, hn_7_V.symm⟩)
    · skip
      have hn_f_7 : b ≠ Wx.heap.size := by have h_ := blk_lt mf; omega
      have hn_3_7 : g3 ≠ Wx.heap.size := by have h_ := blk_lt m3; omega
      have hn_5_7 : g5 ≠ Wx.heap.size := by have h_ := blk_lt m5; omega
      have hn_6_7 : g6 ≠ Wx.heap.size := by have h_ := blk_lt m6; omega
      have hG7 : w.heap.size ≤ Wx.heap.size := by have h_ := mB.size; omega
      replace mf := blk_alloc mf (.cells #[.int .i64 0, .int .i64 0] 35)
      replace m3 := blk_alloc m3 (.cells #[.int .i64 0, .int .i64 0] 35)
      replace m5 := blk_alloc m5 (.cells #[.int .i64 0, .int .i64 0] 35)
      replace m6 := blk_alloc m6 (.cells #[.int .i64 0, .int .i64 0] 35)
      have m7 : Blk (Wx.alloc (.cells #[.int .i64 0, .int .i64 0] 35)) (Wx.heap.size) #[.int .i64 0, .int .i64 0] 35 := by have h_ := blk_new Wx (.cells #[.int .i64 0, .int .i64 0] 35); first | exact h_ | (simp only [World.size_alloc] at h_; exact h_)
      replace mB := below_alloc mB (.cells #[.int .i64 0, .int .i64 0] 35)
      refine value_ (w1 := ?_) (v := ?_) (by rfl) rfl ?_ ?_
      rotate_left 2
      · go_simp
        constructor
        · rfl
        · rfl
      refine hK.out _ _ ⟨((blk_cell m5 0).trans rfl), ((blk_cell m5 1).trans rfl), ((blk_cell m5 2).trans rfl), ((blk_cell m6 0).trans rfl), ((blk_cell m6 1).trans rfl), ((blk_cell m6 2).trans rfl)⟩ (fun hHeld => ?_)
      clear hK K
      refine norm_ (a' := ?_) ?_ ?_
      rotate_left
      · show Act.put _ (some 7) _ = _
        simp only [Act.put, List.setIfInBounds_toArray, List.set_cons_zero, List.set_cons_succ, i64_w, i32_w]
        rfl
      refine one_ (i := 4) (N := some 37) #[true, true, true, true, true, true, true, false, false, false, false, false, false, true, false, false] rfl rfl (by kernel_rfl) (by decide) (fun K hK => ?_)
      have hcon_ := seen_any b par rate ys Ai Ak.f1 (Wx.alloc (.cells #[.int .i64 0, .int .i64 0] 35)) (hF0.below mB)
      refine goes_ Try.func90 (by kernel_rfl) rfl #[.pointer (some ⟨b, 0, none⟩), .agg #[.int .i64 Ai.f0.f0, .int .i64 Ai.f0.f1, .int .i64 Ai.f1], .int .i64 Ak.f1] (by rfl) rfl rfl (by simp only [List.map_toArray, List.map_cons, List.map_nil]; rfl) ?_
      with_reducible refine (hcon_).mono ?_
      rintro e w4 ⟨rfl, hb⟩
      refine ⟨_, rfl, ?_⟩
      clear hcon_
      replace mf := blk_below mf hb
      replace m3 := blk_below m3 hb
      replace m5 := blk_below m5 hb
      replace m6 := blk_below m6 hb
      replace m7 := blk_below m7 hb
      replace mB := below_step mB hb
      clear hb
      refine hK.out _ _ ⟨((blk_cell m5 0).trans rfl), ((blk_cell m5 1).trans rfl), ((blk_cell m5 2).trans rfl), ((blk_cell m6 0).trans rfl), ((blk_cell m6 1).trans rfl), ((blk_cell m6 2).trans rfl)⟩ (fun hHeld => ?_)
      clear hK K
      refine norm_ (a' := ?_) ?_ ?_
      rotate_left
      · show Act.put _ (some 37) _ = _
        simp only [Act.put, List.setIfInBounds_toArray, List.set_cons_zero, List.set_cons_succ, i64_w, i32_w]
        rfl
      refine one_ (i := 7) (N := some 40) #[true, true, true, true, true, true, true, true, false, false, false, false, false, true, false, false] rfl rfl (by kernel_rfl) (by decide) (fun K hK => ?_)
      have hn_f_R : b ≠ w4.heap.size := by have h_ := blk_lt mf; omega
      have hn_3_R : g3 ≠ w4.heap.size := by have h_ := blk_lt m3; omega
      have hn_5_R : g5 ≠ w4.heap.size := by have h_ := blk_lt m5; omega
      have hn_6_R : g6 ≠ w4.heap.size := by have h_ := blk_lt m6; omega
      have hn_7_R : Wx.heap.size ≠ w4.heap.size := by have h_ := blk_lt m7; omega
      have hGR : w.heap.size ≤ w4.heap.size := by have h_ := mB.size; omega
      replace mf := blk_alloc mf (.cells #[.int .i64 (seenI rate Ai Ak.f1).f0, .int .i64 (seenI rate Ai Ak.f1).f1, .int .i64 Ak.f0.f0, .int .i64 Ak.f0.f1] 35)
      replace m3 := blk_alloc m3 (.cells #[.int .i64 (seenI rate Ai Ak.f1).f0, .int .i64 (seenI rate Ai Ak.f1).f1, .int .i64 Ak.f0.f0, .int .i64 Ak.f0.f1] 35)
      replace m5 := blk_alloc m5 (.cells #[.int .i64 (seenI rate Ai Ak.f1).f0, .int .i64 (seenI rate Ai Ak.f1).f1, .int .i64 Ak.f0.f0, .int .i64 Ak.f0.f1] 35)
      replace m6 := blk_alloc m6 (.cells #[.int .i64 (seenI rate Ai Ak.f1).f0, .int .i64 (seenI rate Ai Ak.f1).f1, .int .i64 Ak.f0.f0, .int .i64 Ak.f0.f1] 35)
      replace m7 := blk_alloc m7 (.cells #[.int .i64 (seenI rate Ai Ak.f1).f0, .int .i64 (seenI rate Ai Ak.f1).f1, .int .i64 Ak.f0.f0, .int .i64 Ak.f0.f1] 35)
      have mR : Blk (w4.alloc (.cells #[.int .i64 (seenI rate Ai Ak.f1).f0, .int .i64 (seenI rate Ai Ak.f1).f1, .int .i64 Ak.f0.f0, .int .i64 Ak.f0.f1] 35)) (w4.heap.size) #[.int .i64 (seenI rate Ai Ak.f1).f0, .int .i64 (seenI rate Ai Ak.f1).f1, .int .i64 Ak.f0.f0, .int .i64 Ak.f0.f1] 35 := by have h_ := blk_new w4 (.cells #[.int .i64 (seenI rate Ai Ak.f1).f0, .int .i64 (seenI rate Ai Ak.f1).f1, .int .i64 Ak.f0.f0, .int .i64 Ak.f0.f1] 35); first | exact h_ | (simp only [World.size_alloc] at h_; exact h_)
      replace mB := below_alloc mB (.cells #[.int .i64 (seenI rate Ai Ak.f1).f0, .int .i64 (seenI rate Ai Ak.f1).f1, .int .i64 Ak.f0.f0, .int .i64 Ak.f0.f1] 35)
      refine value_ (w1 := ?_) (v := ?_) (by rfl) rfl ?_ ?_
      rotate_left 2
      · go_simp
        constructor
        · rfl
        · rfl
      refine hK.out _ _ ⟨((blk_cell m5 0).trans rfl), ((blk_cell m5 1).trans rfl), ((blk_cell m5 2).trans rfl), ((blk_cell m6 0).trans rfl), ((blk_cell m6 1).trans rfl), ((blk_cell m6 2).trans rfl)⟩ (fun hHeld => ?_)
      clear hK K
      refine norm_ (a' := ?_) ?_ ?_
      rotate_left
      · show Act.put _ (some 40) _ = _
        simp only [Act.put, List.setIfInBounds_toArray, List.set_cons_zero, List.set_cons_succ, i64_w, i32_w]
        rfl
      refine one_ (i := 8) (N := some 41) #[true, true, true, true, true, true, true, true, true, false, false, false, false, true, false, false] rfl rfl (by kernel_rfl) (by decide) (fun K hK => ?_)
      have hcon_ := values35_at (some ⟨w4.heap.size, 0, none⟩) 2 2 (w4.heap.size + 1) (w4.alloc (.cells #[.int .i64 (seenI rate Ai Ak.f1).f0, .int .i64 (seenI rate Ai Ak.f1).f1, .int .i64 Ak.f0.f0, .int .i64 Ak.f0.f1] 35)) (by first | rfl | simp only [World.size_alloc])
      have hn_f_V : b ≠ w4.heap.size + 1 := by have h_ := blk_lt mf; simp only [World.size_alloc] at h_; omega
      have hn_3_V : g3 ≠ w4.heap.size + 1 := by have h_ := blk_lt m3; simp only [World.size_alloc] at h_; omega
      have hn_5_V : g5 ≠ w4.heap.size + 1 := by have h_ := blk_lt m5; simp only [World.size_alloc] at h_; omega
      have hn_6_V : g6 ≠ w4.heap.size + 1 := by have h_ := blk_lt m6; simp only [World.size_alloc] at h_; omega
      have hn_7_V : Wx.heap.size ≠ w4.heap.size + 1 := by have h_ := blk_lt m7; simp only [World.size_alloc] at h_; omega
      have hn_R_V : w4.heap.size ≠ w4.heap.size + 1 := by have h_ := blk_lt mR; simp only [World.size_alloc] at h_; omega
      have hGV : w.heap.size ≤ w4.heap.size + 1 := by have h_ := mB.size; simp only [World.size_alloc] at h_; omega
      replace mf := blk_alloc mf (.cells #[.slice (some ⟨w4.heap.size, 0, none⟩) 2 2] 65)
      replace m3 := blk_alloc m3 (.cells #[.slice (some ⟨w4.heap.size, 0, none⟩) 2 2] 65)
      replace m5 := blk_alloc m5 (.cells #[.slice (some ⟨w4.heap.size, 0, none⟩) 2 2] 65)
      replace m6 := blk_alloc m6 (.cells #[.slice (some ⟨w4.heap.size, 0, none⟩) 2 2] 65)
      replace m7 := blk_alloc m7 (.cells #[.slice (some ⟨w4.heap.size, 0, none⟩) 2 2] 65)
      replace mR := blk_alloc mR (.cells #[.slice (some ⟨w4.heap.size, 0, none⟩) 2 2] 65)
      have mV : Blk ((w4.alloc (.cells #[.int .i64 (seenI rate Ai Ak.f1).f0, .int .i64 (seenI rate Ai Ak.f1).f1, .int .i64 Ak.f0.f0, .int .i64 Ak.f0.f1] 35)).alloc (.cells #[.slice (some ⟨w4.heap.size, 0, none⟩) 2 2] 65)) (w4.heap.size + 1) #[.slice (some ⟨w4.heap.size, 0, none⟩) 2 2] 65 := by have h_ := blk_new (w4.alloc (.cells #[.int .i64 (seenI rate Ai Ak.f1).f0, .int .i64 (seenI rate Ai Ak.f1).f1, .int .i64 Ak.f0.f0, .int .i64 Ak.f0.f1] 35)) (.cells #[.slice (some ⟨w4.heap.size, 0, none⟩) 2 2] 65); first | exact h_ | (simp only [World.size_alloc] at h_; exact h_)
      replace mB := below_alloc mB (.cells #[.slice (some ⟨w4.heap.size, 0, none⟩) 2 2] 65)
      refine goes_ Try.func84 (by kernel_rfl) rfl #[.slice (some ⟨w4.heap.size, 0, none⟩) 2 2] (by rfl) rfl rfl (by simp only [List.map_toArray, List.map_cons, List.map_nil]; rfl) ?_
      with_reducible refine (hcon_).mono ?_
      rintro e W_ ⟨rfl, rfl⟩
      refine ⟨_, rfl, ?_⟩
      clear hcon_
      refine hK.out _ _ ⟨((blk_cell m5 0).trans rfl), ((blk_cell m5 1).trans rfl), ((blk_cell m5 2).trans rfl), ((blk_cell m6 0).trans rfl), ((blk_cell m6 1).trans rfl), ((blk_cell m6 2).trans rfl)⟩ (fun hHeld => ?_)
      clear hK K
      refine norm_ (a' := ?_) ?_ ?_
      rotate_left
      · show Act.put _ (some 41) _ = _
        simp only [Act.put, List.setIfInBounds_toArray, List.set_cons_zero, List.set_cons_succ, i64_w, i32_w]
        rfl
      refine one_ (i := 9) (N := some 42) #[true, true, true, true, true, true, true, true, true, true, false, false, false, true, false, false] rfl rfl (by kernel_rfl) (by decide) (fun K hK => ?_)
      have hcon_ := meet35_any 101 85 #[.pointer (some ⟨w4.heap.size + 1, 0, none⟩)] #[] ((w4.alloc (.cells #[.int .i64 (seenI rate Ai Ak.f1).f0, .int .i64 (seenI rate Ai Ak.f1).f1, .int .i64 Ak.f0.f0, .int .i64 Ak.f0.f1] 35)).alloc (.cells #[.slice (some ⟨w4.heap.size, 0, none⟩) 2 2] 65)) [(seenI rate Ai Ak.f1), Ak.f0] id (enters_of Try.func101 (by kernel_rfl) rfl) (enters_of Try.func85 (by kernel_rfl) rfl) (fun W_ hb_ => values35_stops 5 (by omega) (w4.heap.size + 1) ((w4.alloc (.cells #[.int .i64 (seenI rate Ai Ak.f1).f0, .int .i64 (seenI rate Ai Ak.f1).f1, .int .i64 Ak.f0.f0, .int .i64 Ak.f0.f1] 35)).alloc (.cells #[.slice (some ⟨w4.heap.size, 0, none⟩) 2 2] 65)) W_ (some ⟨w4.heap.size, 0, none⟩) 2 [(seenI rate Ai Ak.f1), Ak.f0] (by simp) (C_two (x := (seenI rate Ai Ak.f1)) (y := Ak.f0) mR) hb_ (Nat.lt_of_lt_of_le (blk_lt mV) hb_.size) ((blk_cell (blk_below mV hb_) 0).trans rfl)) itself_span
      refine goes_ Try.func83 (by kernel_rfl) rfl #[.func (.func 101) #[] #[.pointer (some ⟨w4.heap.size + 1, 0, none⟩)], .func (.func 85) #[] #[]] (by rfl) rfl rfl (by simp only [List.map_toArray, List.map_cons, List.map_nil]; rfl) ?_
      with_reducible refine (hcon_).mono ?_
      rintro e w9 ⟨rfl, hb⟩
      refine ⟨_, rfl, ?_⟩
      clear hcon_
      replace mf := blk_below mf hb
      replace m3 := blk_below m3 hb
      replace m5 := blk_below m5 hb
      replace m6 := blk_below m6 hb
      replace m7 := blk_below m7 hb
      replace mR := blk_below mR hb
      replace mV := blk_below mV hb
      replace mB := below_step mB hb
      clear hb
      refine hK.out _ _ ⟨((blk_cell m5 0).trans rfl), ((blk_cell m5 1).trans rfl), ((blk_cell m5 2).trans rfl), ((blk_cell m6 0).trans rfl), ((blk_cell m6 1).trans rfl), ((blk_cell m6 2).trans rfl)⟩ (fun hHeld => ?_)
      clear hK K
      refine norm_ (a' := ?_) ?_ ?_
      rotate_left
      · show Act.put _ (some 42) _ = _
        simp only [Act.put, List.setIfInBounds_toArray, List.set_cons_zero, List.set_cons_succ, i64_w, i32_w]
        rfl
      refine pure_ (i := 10) (N := some 32) (v := ?_) (a' := ?_) #[true, true, true, true, true, true, true, true, true, true, true, false, false, true, false, false] rfl rfl (by kernel_rfl) (fun _ _ _ h => h) (Or.inl ⟨by rfl, ?_⟩) ?_ ?_
      rotate_left
      · intro w'
        go_simp
        with_reducible rfl
      rotate_left
      · simp only [Act.put, List.setIfInBounds_toArray, List.set_cons_zero, List.set_cons_succ, i64_w, i32_w]
        rfl
      refine pure_ (i := 11) (N := some 43) (v := ?_) (a' := ?_) #[true, true, true, true, true, true, true, true, true, true, true, true, false, true, false, false] rfl rfl (by kernel_rfl) (fun _ _ _ h => h) (Or.inl ⟨by rfl, ?_⟩) ?_ ?_
      rotate_left
      · intro w'
        go_simp
        with_reducible rfl
      rotate_left
      · simp only [Act.put, List.setIfInBounds_toArray, List.set_cons_zero, List.set_cons_succ, i64_w, i32_w]
        rfl
      refine pure_ (i := 12) (N := some 44) (v := ?_) (a' := ?_) #[true, true, true, true, true, true, true, true, true, true, true, true, true, true, false, false] rfl rfl (by kernel_rfl) (fun _ _ _ h => h) (Or.inl ⟨by rfl, ?_⟩) ?_ ?_
      rotate_left
      · intro w'
        go_simp
        with_reducible rfl
      rotate_left
      · simp only [Act.put, List.setIfInBounds_toArray, List.set_cons_zero, List.set_cons_succ, i64_w, i32_w]
        rfl
      exact norm_ (by first | (simp only [putAll, Act.put, List.setIfInBounds_toArray, List.set_cons_zero, List.set_cons_succ]; done) | (simp only [putAll, Act.put, List.setIfInBounds_toArray, List.set_cons_zero, List.set_cons_succ]; rfl)) (hCont ((w4.heap.size, w4.heap.size + 1, Wx.heap.size)) _ ⟨mf, m3, m5, m6, mR, mV, m7, mB, hGR, hGV, hG7, hn_f_R, hn_3_R, hn_5_R, hn_6_R, hn_f_V, hn_3_V, hn_5_V, hn_6_V, hn_R_V, hn_f_7, hn_3_7, hn_5_7, hn_6_7, hn_7_R.symm, hn_7_V.symm⟩)
  rintro ⟨gR, gV, g7⟩ Wg ⟨mf, m3, m5, m6, mR, mV, m7, mB, hGR, hGV, hG7, hn_f_R, hn_3_R, hn_5_R, hn_6_R, hn_f_V, hn_3_V, hn_5_V, hn_6_V, hn_R_V, hn_f_7, hn_3_7, hn_5_7, hn_6_7, hn_R_7, hn_V_7⟩
  dsimp only at mf m3 m5 m6 mR mV m7 mB hGR hGV hG7 hn_f_R hn_3_R hn_5_R hn_6_R hn_f_V hn_3_V hn_5_V hn_6_V hn_R_V hn_f_7 hn_3_7 hn_5_7 hn_6_7 hn_R_7 hn_V_7
  have hHeld : (Wg.cell? ⟨g5, 0, none⟩ = some (.int .i64 Ai.f0.f0) ∧ Wg.cell? ⟨g5, 1, none⟩ = some (.int .i64 Ai.f0.f1) ∧ Wg.cell? ⟨g5, 2, none⟩ = some (.int .i64 Ai.f1) ∧ Wg.cell? ⟨g6, 0, none⟩ = some (.int .i64 Ak.f0.f0) ∧ Wg.cell? ⟨g6, 1, none⟩ = some (.int .i64 Ak.f0.f1) ∧ Wg.cell? ⟨g6, 2, none⟩ = some (.int .i64 Ak.f1)) := ⟨((blk_cell m5 0).trans rfl), ((blk_cell m5 1).trans rfl), ((blk_cell m5 2).trans rfl), ((blk_cell m6 0).trans rfl), ((blk_cell m6 1).trans rfl), ((blk_cell m6 2).trans rfl)⟩
  refine norm_ (a' := ?_) ?_ ?_
  rotate_left
  · simp only [putAll, Act.put, List.setIfInBounds_toArray, List.set_cons_zero, List.set_cons_succ]
    rfl
  refine one_ (i := 14) (N := none) #[true, true, true, true, true, true, true, true, true, true, true, true, true, true, true, false] rfl rfl (by kernel_rfl) (by decide) (fun K hK => ?_)
  have hf0_ := blk_frozen m7 0
  have hc0_ := (blk_cell m7 0).trans rfl
  have hf1_ := blk_frozen m7 1
  have hc1_ := (blk_cell m7 1).trans rfl
  refine skip_ (w1 := ?_) (by rfl) rfl ?_ ?_
  rotate_left
  · go_simp
    rfl
  clear hf0_ hc0_ hf1_ hc1_
  replace mf : Blk (Wg.setCell ⟨g7, 0, none⟩ (.int .i64 (meetF [seenI rate Ai Ak.f1, Ak.f0]).1)) b #[.int .i64 par, .int .i64 rate, .slice (some ad) ys.length c] 109 := blk_far (p := ⟨g7, 0, none⟩) mf hn_f_7 _
  replace m3 : Blk (Wg.setCell ⟨g7, 0, none⟩ (.int .i64 (meetF [seenI rate Ai Ak.f1, Ak.f0]).1)) g3 #[.int .i64 i, .int .i64 k] 81 := blk_far (p := ⟨g7, 0, none⟩) m3 hn_3_7 _
  replace m5 : Blk (Wg.setCell ⟨g7, 0, none⟩ (.int .i64 (meetF [seenI rate Ai Ak.f1, Ak.f0]).1)) g5 #[.int .i64 Ai.f0.f0, .int .i64 Ai.f0.f1, .int .i64 Ai.f1] 105 := blk_far (p := ⟨g7, 0, none⟩) m5 hn_5_7 _
  replace m6 : Blk (Wg.setCell ⟨g7, 0, none⟩ (.int .i64 (meetF [seenI rate Ai Ak.f1, Ak.f0]).1)) g6 #[.int .i64 Ak.f0.f0, .int .i64 Ak.f0.f1, .int .i64 Ak.f1] 105 := blk_far (p := ⟨g7, 0, none⟩) m6 hn_6_7 _
  replace m7 : Blk (Wg.setCell ⟨g7, 0, none⟩ (.int .i64 (meetF [seenI rate Ai Ak.f1, Ak.f0]).1)) g7 #[.int .i64 (meetF [seenI rate Ai Ak.f1, Ak.f0]).1, .int .i64 0] 35 := blk_put m7 0 _ rfl
  replace mB : Below w.heap.size w (Wg.setCell ⟨g7, 0, none⟩ (.int .i64 (meetF [seenI rate Ai Ak.f1, Ak.f0]).1)) := mB.setCell (p := ⟨g7, 0, none⟩) hG7 _
  replace mf : Blk ((Wg.setCell ⟨g7, 0, none⟩ (.int .i64 (meetF [seenI rate Ai Ak.f1, Ak.f0]).1)).setCell ⟨g7, 1, none⟩ (.int .i64 (meetF [seenI rate Ai Ak.f1, Ak.f0]).2)) b #[.int .i64 par, .int .i64 rate, .slice (some ad) ys.length c] 109 := blk_far (p := ⟨g7, 1, none⟩) mf hn_f_7 _
  replace m3 : Blk ((Wg.setCell ⟨g7, 0, none⟩ (.int .i64 (meetF [seenI rate Ai Ak.f1, Ak.f0]).1)).setCell ⟨g7, 1, none⟩ (.int .i64 (meetF [seenI rate Ai Ak.f1, Ak.f0]).2)) g3 #[.int .i64 i, .int .i64 k] 81 := blk_far (p := ⟨g7, 1, none⟩) m3 hn_3_7 _
  replace m5 : Blk ((Wg.setCell ⟨g7, 0, none⟩ (.int .i64 (meetF [seenI rate Ai Ak.f1, Ak.f0]).1)).setCell ⟨g7, 1, none⟩ (.int .i64 (meetF [seenI rate Ai Ak.f1, Ak.f0]).2)) g5 #[.int .i64 Ai.f0.f0, .int .i64 Ai.f0.f1, .int .i64 Ai.f1] 105 := blk_far (p := ⟨g7, 1, none⟩) m5 hn_5_7 _
  replace m6 : Blk ((Wg.setCell ⟨g7, 0, none⟩ (.int .i64 (meetF [seenI rate Ai Ak.f1, Ak.f0]).1)).setCell ⟨g7, 1, none⟩ (.int .i64 (meetF [seenI rate Ai Ak.f1, Ak.f0]).2)) g6 #[.int .i64 Ak.f0.f0, .int .i64 Ak.f0.f1, .int .i64 Ak.f1] 105 := blk_far (p := ⟨g7, 1, none⟩) m6 hn_6_7 _
  replace m7 : Blk ((Wg.setCell ⟨g7, 0, none⟩ (.int .i64 (meetF [seenI rate Ai Ak.f1, Ak.f0]).1)).setCell ⟨g7, 1, none⟩ (.int .i64 (meetF [seenI rate Ai Ak.f1, Ak.f0]).2)) g7 #[.int .i64 (meetF [seenI rate Ai Ak.f1, Ak.f0]).1, .int .i64 (meetF [seenI rate Ai Ak.f1, Ak.f0]).2] 35 := blk_put m7 1 _ rfl
  replace mB : Below w.heap.size w ((Wg.setCell ⟨g7, 0, none⟩ (.int .i64 (meetF [seenI rate Ai Ak.f1, Ak.f0]).1)).setCell ⟨g7, 1, none⟩ (.int .i64 (meetF [seenI rate Ai Ak.f1, Ak.f0]).2)) := mB.setCell (p := ⟨g7, 1, none⟩) hG7 _
  refine hK.out _ _ ⟨((blk_cell m5 0).trans rfl), ((blk_cell m5 1).trans rfl), ((blk_cell m5 2).trans rfl), ((blk_cell m6 0).trans rfl), ((blk_cell m6 1).trans rfl), ((blk_cell m6 2).trans rfl)⟩ (fun hHeld => ?_)
  clear hK K
  refine pure_ (i := 15) (N := some 8) (v := ?_) (a' := ?_) #[true, true, true, true, true, true, true, true, true, true, true, true, true, true, true, true] rfl rfl (by kernel_rfl) (fun _ _ _ h => h) (Or.inl ⟨by rfl, ?_⟩) ?_ ?_
  rotate_left
  · intro w'
    go_simp
    with_reducible rfl
  rotate_left
  · simp only [Act.put, List.setIfInBounds_toArray, List.set_cons_zero, List.set_cons_succ, i64_w, i32_w]
    rfl
  refine done_ (by kernel_rfl) ?_
  go_wp2
  go_ret
  exact ⟨by rw [HC.out]; rfl, mB⟩
end Go.Proofs.Ytcjdhajdoikojaa.Clk
end
section
/- The first two anchors that contradict each other, as the program finds them. -/
namespace Go.Proofs.Ytcjdhajdoikojaa.Clk
open Go.RowKit Go.Shelf Go.Proofs.YtcjdhajdoikojaaW.PrintWords Go.Proofs.YtcjdhajdoikojaaW.PrintLast Go.Proofs.YtcjdhajdoikojaaW.PrintMore Go.Proofs.Ytcjdhajdoikojaa.Pr Go.Proofs.YtcjdhajdoikojaaW.Round
set_option linter.unusedVariables false
set_option linter.unusedSimpArgs false
attribute [local go_sem] Oper.semAt_some
/-- All pairs of numbers below n, the first one less than the second one, by the second one. -/
def pairsL (n : Nat) : List (Int × Int) := (List.range n).flatMap fun k => (List.range k).map fun (i : Nat) => ((i : Int), (k : Int))
theorem pairsL_succ (n : Nat) : pairsL (n + 1) = pairsL n ++ (List.range n).map fun (i : Nat) => ((i : Int), (n : Int)) := by simp [pairsL, List.range_succ]
theorem pairsL_pre (k : Nat) : ∀ n, k ≤ n → pairsL k <+: pairsL n
  | 0, h => by obtain rfl : k = 0 := by omega
               exact List.prefix_refl _
  | n + 1, h => by
    by_cases e : k = n + 1
    · subst e
      exact List.prefix_refl _
    · exact (pairsL_pre k n (by omega)).trans (by rw [pairsL_succ]; exact List.prefix_append _ _)
/-- What has come when k rounds and i rounds more are over. -/
def uptoL (k i : Nat) : List (Int × Int) := pairsL k ++ (List.range i).map fun (i : Nat) => ((i : Int), (k : Int))
theorem uptoL_succ (k i : Nat) : uptoL k (i + 1) = uptoL k i ++ [((i : Int), (k : Int))] := by simp [uptoL, List.range_succ]
theorem uptoL_end (k : Nat) : uptoL k k = pairsL (k + 1) := (pairsL_succ k).symm
theorem uptoL_pre {k i n : Nat} (hk : k < n) (hi : i ≤ k) : uptoL k i <+: pairsL n := by
  refine List.IsPrefix.trans ?_ (pairsL_pre (k + 1) n hk)
  rw [pairsL_succ]
  refine (List.prefix_append_right_inj _).2 ?_
  exact List.IsPrefix.map _ (by
    refine ⟨(List.range (k - i)).map (i + ·), ?_⟩
    rw [← List.range_add]
    congr 1
    omega)
abbrev PairN (n : Nat) := { p : Int × Int // 0 ≤ p.1 ∧ p.1 < p.2 ∧ p.2 < (n : Int) }

def AllP {n : Nat} (xs : List (PairN n)) : Prop := xs.map Subtype.val = pairsL n
def PreP {n : Nat} (xs : List (PairN n)) : Prop := xs.map Subtype.val <+: pairsL n

/-- Two results in memory, the second one of one cell. -/
theorem results_cb {P : Program} {fn : Func} {p u : Tmp} {ty ty2 : TypeId} (h : fn.results = #[.cell p ty, .cell u ty2]) (tmps : Array Value) (w : World) (g g2 : Nat) (t t2 : TypeId) (cs : Array Value) (v : Value) (d : TypeDesc)
    (hp : tmps.getD p undef = .pointer (some ⟨g, 0, none⟩)) (hg : w.heap[g]? = some (.cells cs t (0, 0)))
    (hu : P.underlying ty = some d) (hd : (match d with | .struct _ | .array _ _ => true | _ => false) = true) (hi : (P.info? ty).map (·.size) = some cs.size)
    (hp2 : tmps.getD u undef = .pointer (some ⟨g2, 0, none⟩)) (hg2 : w.heap[g2]? = some (.cells #[v] t2 (0, 0))) (hu2 : P.underlying ty2 = some .bool) :
    (results fn tmps).run P w = .ok (.tuple #[.agg cs, v]) w := by
  have hp' : tmps[p]?.getD undef = .pointer (some ⟨g, 0, none⟩) := by simpa using hp
  have hp2' : tmps[u]?.getD undef = .pointer (some ⟨g2, 0, none⟩) := by simpa using hp2
  have hc2 : w.cell? ⟨g2, 0, none⟩ = some v := (blk_cell hg2 0).trans rfl
  have hb2 : (loadVar ty2 ⟨g2, 0, none⟩).run P w = .ok v w := by
    have ha : (isAgg ty2).run P w = .ok false w := by
      unfold isAgg
      rw [Sem.run_bind, run_underlying hu2 w]
      rfl
    unfold loadVar
    rw [Sem.run_bind, ha]
    go_simp
  simp [results, h, hp', hp2', asAddr, run_loadVar_row w g t ty cs (0, 0) d hg hu hd hi, hb2]

set_option maxHeartbeats 1000000 in
theorem pairs_any (b : Nat) (w : World) : Calls Try.prog 92 #[.pointer (some ⟨b, 0, none⟩)] w fun e w' => e = .returned (.func (.func 103) #[] #[.pointer (some ⟨w.heap.size, 0, none⟩)]) ∧ w' = w.alloc (.cells #[.pointer (some ⟨b, 0, none⟩)] 99) := by
  go_enter Try.func92, Try.ntmps92
  go_wp2
  go_ret
  exact ⟨rfl, rfl⟩

set_option maxRecDepth 100000 in
set_option maxHeartbeats 4000000 in
theorem pairs1_in (n : Nat) (hn : 1 ≤ n) (l Bs : Nat) (w0 : World) (b : Nat) (par rate : Int) (ys : List S105) (hl : ys.length ≤ 1000) (hF : FaceAt w0 b par rate ys) (J Jx : List (PairN ys.length) → World → Prop)
    (hY : ∀ pre x W, J pre W → pre.length < (pairsL ys.length).length → YieldAt Fence.wide (n - 1) Try.prog l #[.agg #[.int .i64 x.1.1, .int .i64 x.1.2]] W fun e W' =>
      (e = .returned (.bool true) ∧ J (pre ++ [x]) W' ∧ Below w0.heap.size W W') ∨ (e = .returned (.bool false) ∧ Jx (pre ++ [x]) W'))
    (W : World) (hb : Below w0.heap.size w0 W) (hBs : W.cell? ⟨Bs, 0, none⟩ = some (.pointer (some ⟨b, 0, none⟩))) (h0 : J [] W) :
    CallsIn Fence.wide n Try.prog 103 #[.func (.yield l) #[] #[], .pointer (some ⟨Bs, 0, none⟩)] W fun e W' => (∃ v, e = .returned v) ∧
      ((∃ xs, AllP xs ∧ J xs W') ∨ (∃ pre, PreP pre ∧ Jx pre W')) := by
  have hu109 := Try.underlying109
  have hu81 := Try.underlying81
  obtain ⟨A, c, mf, hlc, hC⟩ := hF
  have hcf := (blk_cell (blk_below mf hb) 2).trans rfl
  clear mf hC
  refine callsIn_of_wp Try.func103 rfl trivial ?_ rfl
  simp only [Try.ntmps103, List.size_toArray, List.length_cons, List.length_nil, Nat.reduceAdd, Nat.reduceSub, Array.replicate_succ, Array.replicate_zero, List.push_toArray, List.append_toArray, List.nil_append, List.cons_append]
  gi_wp2
  clear hcf hBs
  gi_loopw [10] (fun i wr => ∃ (k : Nat) (pre : List (PairN ys.length)), k ≤ ys.length ∧ i = .int .i64 k ∧ pre.map Subtype.val = pairsL k ∧ J pre wr) (fun i _ => ys.length - (intOf i).toNat)
  case atStart => exact ⟨0, [], Nat.zero_le _, rfl, rfl, h0⟩
  case round =>
    obtain ⟨k, pre, hk, rfl, hpre, hJs⟩ := hrel
    have HP := Lib.hid hpre
    clear hpre
    by_cases hlt : k < ys.length
    · gi_wp2
      gi_loopw [14] (fun i wr2 => ∃ (j : Nat) (pre2 : List (PairN ys.length)), j ≤ k ∧ i = .int .i64 j ∧ Hid (pre2.map Subtype.val = uptoL k j) ∧ J pre2 wr2) (fun i _ => k - (intOf i).toNat)
      case atStart => exact ⟨0, pre, Nat.zero_le _, rfl, Lib.hid (by rw [HP.out]; simp [uptoL]), hJs⟩
      case round =>
        obtain ⟨j, pre2, hj, rfl, HQ, hJ2⟩ := hrel
        by_cases hjk : j < k
        · have hlen : pre2.length < (pairsL ys.length).length := by
            have h1 := uptoL_pre hlt (show j + 1 ≤ k by omega)
            have h2 := h1.length_le
            rw [uptoL_succ, ← HQ.out] at h2
            simp at h2
            omega
          obtain ⟨fn, tmps, assign, body, hy, hR⟩ := hY pre2 ⟨((j : Int), (k : Int)), by simp, by simp; omega, by simp; omega⟩ _ hJ2 hlen
          dsimp only at hy
          gi_wp2
          refine hR.mono ?_
          rintro e W3 (⟨rfl, hJ3, hk3⟩ | ⟨rfl, hJx3⟩)
          · gi_wp2
            go_roundw
            case rel => exact ⟨j + 1, _, by omega, by simp, Lib.hid (by rw [List.map_append, HQ.out, uptoL_succ]; rfl), hJ3⟩
            case measure => simp [intOf]; omega
          · gi_wp2
            refine bodyPost_ret (results_none rfl _ _ _) rfl ?_
            exact ⟨⟨_, rfl⟩, .inr ⟨_, by show List.map Subtype.val _ <+: _; rw [List.map_append, HQ.out, List.map_singleton, ← uptoL_succ]; exact uptoL_pre hlt (by omega), hJx3⟩⟩
        · obtain rfl : j = k := by omega
          gi_wp2
          go_roundw
          case rel => exact ⟨j + 1, pre2, by omega, by simp, by rw [HQ.out, uptoL_end], hJ2⟩
          case measure => simp [intOf]; omega
    · obtain rfl : k = ys.length := by omega
      gi_wp2
      go_end0
      exact ⟨⟨_, rfl⟩, .inl ⟨pre, HP.out, hJs⟩⟩

/-- The first pair of anchors that contradict each other. -/
def findCon (rate : Int) (ys : List S105) : Option (Int × Int) := (pairsL ys.length).find? fun p => conI rate ys p.1 p.2
theorem find_none {rate : Int} {ys : List S105} {xs : List (PairN ys.length)} (h : xs.map Subtype.val = pairsL ys.length) (hf : ∀ p ∈ xs, conI rate ys p.1.1 p.1.2 = false) : findCon rate ys = none := by
  unfold findCon
  rw [← h, List.find?_eq_none]
  intro p hp
  obtain ⟨q, hq, rfl⟩ := List.mem_map.1 hp
  simp [hf q hq]
theorem find_some {rate : Int} {ys : List S105} {ini : List (PairN ys.length)} {last : PairN ys.length} (h : (ini ++ [last]).map Subtype.val <+: pairsL ys.length) (hf : ∀ p ∈ ini, conI rate ys p.1.1 p.1.2 = false) (hl : conI rate ys last.1.1 last.1.2 = true) : findCon rate ys = some last.1 := by
  unfold findCon
  obtain ⟨t, ht⟩ := h
  rw [← ht, List.map_append, List.append_assoc, List.find?_append]
  have h1 : (ini.map Subtype.val).find? (fun p => conI rate ys p.1 p.2) = none := by
    rw [List.find?_eq_none]
    intro p hp
    obtain ⟨q, hq, rfl⟩ := List.mem_map.1 hp
    simp [hf q hq]
  rw [h1]
  simp [hl]

set_option maxRecDepth 100000 in
set_option maxHeartbeats 4000000 in
theorem cont_any (b : Nat) (par rate : Int) (ys : List S105) (hl : ys.length ≤ 1000) (w : World) (hF : FaceAt w b par rate ys) :
    Calls Try.prog 65 #[.pointer (some ⟨b, 0, none⟩)] w fun e w' => e = .returned (.tuple #[.agg #[.int .i64 ((findCon rate ys).getD (0, 0)).1, .int .i64 ((findCon rate ys).getD (0, 0)).2], .bool (findCon rate ys).isSome]) ∧ Below w.heap.size w w' := by
  have hu81 := Try.underlying81
  refine (callsIn_wide (n := 6)).1 ?_
  refine callsIn_of_wp_marks Try.func65 rfl trivial ?_ rfl
  simp only [Try.ntmps65, List.size_toArray, List.length_cons, List.length_nil, Nat.reduceAdd, Nat.reduceSub, Array.replicate_succ, Array.replicate_zero, List.push_toArray, List.append_toArray, List.nil_append, List.cons_append]
  gi_wp2_with fail
  refine ⟨trivial, (callsIn_wide.2 (pairs_any _ _)).mono ?_⟩
  rintro e W_ ⟨rfl, rfl⟩
  gi_wp2_with fail
  have m1 : Blk ((((w.alloc (.cells #[.pointer (some ⟨b, 0, none⟩)] 99)).alloc (.cells #[.int .i64 0, .int .i64 0] 81)).alloc (.cells #[.bool false] 4)).alloc (.cells #[.pointer (some ⟨b, 0, none⟩)] 99)) (w.heap.size) #[.pointer (some ⟨b, 0, none⟩)] 99 := (blk_alloc (blk_alloc (blk_alloc (by have h_ := blk_new w (.cells #[.pointer (some ⟨b, 0, none⟩)] 99); first | exact h_ | (simp only [World.size_alloc] at h_; exact h_)) _) _) _)
  have m2 : Blk ((((w.alloc (.cells #[.pointer (some ⟨b, 0, none⟩)] 99)).alloc (.cells #[.int .i64 0, .int .i64 0] 81)).alloc (.cells #[.bool false] 4)).alloc (.cells #[.pointer (some ⟨b, 0, none⟩)] 99)) (w.heap.size + 1) #[.int .i64 0, .int .i64 0] 81 := (blk_alloc (blk_alloc (by have h_ := blk_new (w.alloc (.cells #[.pointer (some ⟨b, 0, none⟩)] 99)) (.cells #[.int .i64 0, .int .i64 0] 81); first | exact h_ | (simp only [World.size_alloc] at h_; exact h_)) _) _)
  have m3 : Blk ((((w.alloc (.cells #[.pointer (some ⟨b, 0, none⟩)] 99)).alloc (.cells #[.int .i64 0, .int .i64 0] 81)).alloc (.cells #[.bool false] 4)).alloc (.cells #[.pointer (some ⟨b, 0, none⟩)] 99)) (w.heap.size + 1 + 1) #[.bool false] 4 := (blk_alloc (by have h_ := blk_new ((w.alloc (.cells #[.pointer (some ⟨b, 0, none⟩)] 99)).alloc (.cells #[.int .i64 0, .int .i64 0] 81)) (.cells #[.bool false] 4); first | exact h_ | (simp only [World.size_alloc] at h_; exact h_)) _)
  have mV : Blk ((((w.alloc (.cells #[.pointer (some ⟨b, 0, none⟩)] 99)).alloc (.cells #[.int .i64 0, .int .i64 0] 81)).alloc (.cells #[.bool false] 4)).alloc (.cells #[.pointer (some ⟨b, 0, none⟩)] 99)) (w.heap.size + 1 + 1 + 1) #[.pointer (some ⟨b, 0, none⟩)] 99 := (by have h_ := blk_new (((w.alloc (.cells #[.pointer (some ⟨b, 0, none⟩)] 99)).alloc (.cells #[.int .i64 0, .int .i64 0] 81)).alloc (.cells #[.bool false] 4)) (.cells #[.pointer (some ⟨b, 0, none⟩)] 99); first | exact h_ | (simp only [World.size_alloc] at h_; exact h_))
  have mB : Below w.heap.size w ((((w.alloc (.cells #[.pointer (some ⟨b, 0, none⟩)] 99)).alloc (.cells #[.int .i64 0, .int .i64 0] 81)).alloc (.cells #[.bool false] 4)).alloc (.cells #[.pointer (some ⟨b, 0, none⟩)] 99)) := (below_alloc (below_alloc (below_alloc (below_alloc (Below.refl w.heap.size w) _) _) _) _)
  have hsz_ : w.heap.size ≤ w.heap.size := Nat.le_refl _
  generalize hW_ : ((((w.alloc (.cells #[.pointer (some ⟨b, 0, none⟩)] 99)).alloc (.cells #[.int .i64 0, .int .i64 0] 81)).alloc (.cells #[.bool false] 4)).alloc (.cells #[.pointer (some ⟨b, 0, none⟩)] 99)) = W0 at m1 m2 m3 mV mB ⊢
  clear hW_
  generalize hg1 : w.heap.size = g1 at m1 m2 m3 mV ⊢
  have hG1 : w.heap.size ≤ g1 := by omega
  generalize hg2 : g1 + 1 = g2 at m2 m3 mV ⊢
  have hn_1_2 : g1 ≠ g2 := by omega
  have hn_2_1 : g2 ≠ g1 := hn_1_2.symm
  have hG2 : w.heap.size ≤ g2 := by omega
  generalize hg3 : g2 + 1 = g3 at m3 mV ⊢
  have hn_1_3 : g1 ≠ g3 := by omega
  have hn_2_3 : g2 ≠ g3 := by omega
  have hn_3_1 : g3 ≠ g1 := hn_1_3.symm
  have hn_3_2 : g3 ≠ g2 := hn_2_3.symm
  have hG3 : w.heap.size ≤ g3 := by omega
  generalize hgV : g3 + 1 = gV at mV ⊢
  have hn_1_V : g1 ≠ gV := by omega
  have hn_2_V : g2 ≠ gV := by omega
  have hn_3_V : g3 ≠ gV := by omega
  have hn_V_1 : gV ≠ g1 := hn_1_V.symm
  have hn_V_2 : gV ≠ g2 := hn_2_V.symm
  have hn_V_3 : gV ≠ g3 := hn_3_V.symm
  have hGV : w.heap.size ≤ gV := by omega
  clear hsz_
  try clear hgV
  try clear hg3
  try clear hg2
  try clear hg1
  have hs_W0 : w.heap.size ≤ W0.heap.size := mB.size
  have hl1 := blk_lt m1
  have hl2 := blk_lt m2
  have hl3 := blk_lt m3
  have hn12 : g1 ≠ g2 := by omega
  refine wpIn_rangeFunc_ownH rfl (by omega) (gf := 103) (lb := #[.pointer (some ⟨gV, 0, none⟩)]) rfl trivial (enters_of Try.func103 (by kernel_rfl) rfl)
    (encs := fun x : PairN ys.length => #[.agg #[.int .i64 x.1.1, .int .i64 x.1.2]]) (Kp := Below w.heap.size) (S := AllP) (Sp := PreP) (N := (pairsL ys.length).length) (w0 := W0)
    (fun l J Jx W hW hJ _ hY h0 => pairs1_in 5 (by omega) l gV w b par rate ys hl hF J Jx hY W (below_step mB hW) ((blk_cell (blk_below mV hW) 0).trans rfl) h0) belowK_t (belowK_b (by omega)) (Below.refl _ _) (fun _ => rfl)
    (fun pre W => (∀ p ∈ pre, conI rate ys p.1.1 p.1.2 = false) ∧ Blk W g1 #[.pointer (some ⟨b, 0, none⟩)] 99 ∧ Blk W g2 #[.int .i64 0, .int .i64 0] 81 ∧ Blk W g3 #[.bool false] 4 ∧ Below w.heap.size w W)
    (fun c pre W => ∃ ini last, (c = .ret ∧ pre = ini ++ [last] ∧ (∀ p ∈ ini, conI rate ys p.1.1 p.1.2 = false) ∧ conI rate ys last.1.1 last.1.2 = true) ∧ Blk W g2 #[.int .i64 last.1.1, .int .i64 last.1.2] 81 ∧ Blk W g3 #[.bool true] 4 ∧ Below w.heap.size w W)
    (OwnFrom.and (ownFrom_pure _ _) (OwnFrom.and (blk_ownFrom _ _ (fun _ => _) _) (OwnFrom.and (blk_ownFrom _ _ (fun _ => _) _) (OwnFrom.and (blk_ownFrom _ _ (fun _ => _) _) (ownFrom_below (by omega) (by omega))))))
    (fun c pre X Y row hs hg hr => by
      obtain ⟨ini, last, h1, h2, h3, h4⟩ := hs
      exact ⟨ini, last, h1, blk_grown h2 hg hr, blk_grown h3 hg hr, ownFrom_below (by omega) (by omega) () X Y row h4 hg hr⟩)
    ⟨by simp, m1, m2, m3, mB⟩
    (fun x a' W => ∃ Bx, (Bx ≠ g1 ∧ Bx ≠ g2 ∧ Bx ≠ g3 ∧ w.heap.size ≤ Bx) ∧ Blk W Bx #[.int .i64 x.1.1, .int .i64 x.1.2] 81 ∧ a' = { tmps := #[.pointer (some ⟨b, 0, none⟩), .pointer (some ⟨g1, 0, none⟩), .pointer (some ⟨g2, 0, none⟩), .pointer (some ⟨g3, 0, none⟩), .pointer (some ⟨Bx, 0, none⟩), .pointer (some ⟨b, 0, none⟩), .func (.func 103) #[] #[.pointer (some ⟨gV, 0, none⟩)], .agg #[.int .i64 x.1.1, .int .i64 x.1.2], undef, undef, undef, undef, undef], defers := [] })
    (fun x a' s X Y row hs hg hr => by
      obtain ⟨Bx, h1, h2, h3⟩ := hs
      exact ⟨Bx, h1, blk_grown h2 hg hr, h3⟩) ?assign ?body ?done ?stop
  case assign =>
    rintro l pre x W K ⟨h0, h1, h2, h3, h4⟩ hK
    gi_wp2
    exact hK _ _ ((KeepsOthers.alloc _ _).from _) ((Below.refl _ W).alloc h4.size _) ⟨h0, blk_alloc h1 _, blk_alloc h2 _, blk_alloc h3 _, h4.alloc h4.size _⟩ ⟨W.heap.size, ⟨by have := blk_lt h1; omega, by have := blk_lt h2; omega, by have := blk_lt h3; omega, h4.size⟩, World.alloc_heap_new W _, rfl⟩
  case body =>
    rintro l pre x a' W hlW ⟨r, hr⟩ ⟨h0, h1, h2, h3, h4⟩ ⟨Bx, ⟨hb1, hb2, hb3, hbw⟩, hX, rfl⟩ hlen
    have c1 := (blk_cell h1 0).trans rfl
    have cx0 := (blk_cell hX 0).trans rfl
    have cx1 := (blk_cell hX 1).trans rfl
    gi_wp2_with fail
    have hcon := con_any b par rate ys x.1.1 x.1.2 x.2.1 (by have := x.2; omega) (by have := x.2; omega) x.2.2.2 (by have := x.2; omega) W (hF.below h4)
    refine ⟨trivial, (CallsIn.inRound l (callsIn_wide.2 hcon)).mono ?_⟩
    clear hcon
    rintro e W1 ⟨rfl, hb⟩
    have k1 := h1.below hb
    have k2 := h2.below hb
    have k3 := h3.below hb
    have kX := hX.below hb
    have hB1 := below_step h4 hb
    have hkf : KeepsFrom W0.heap.size W W1 := keepsFrom_below hb
    have hbw1 : Below w.heap.size W W1 := hb.mono h4.size
    clear c1 cx0 cx1 hr
    have cx0 := (blk_cell kX 0).trans rfl
    have cx1 := (blk_cell kX 1).trans rfl
    have d0 := (blk_cell k2 0).trans rfl
    have d1 := (blk_cell k2 1).trans rfl
    have e0 := (blk_cell k3 0).trans rfl
    have f0 := blk_frozen k2 0
    have f1 := blk_frozen k2 1
    have f2 := blk_frozen k3 0
    have hn23 : g2 ≠ g3 := by omega
    have hn32 : g3 ≠ g2 := by omega
    have hnx2 := hb2
    have hw2 : w.heap.size ≤ g2 := by omega
    have hw3 : w.heap.size ≤ g3 := by omega
    cases hc : conI rate ys x.1.1 x.1.2 with
    | false =>
      have hc' := Lib.hid hc
      clear hc
      gi_wp2
      exact ⟨hkf, hbw1, by
        intro p hp
        rcases List.mem_append.1 hp with hp | hp
        · exact h0 p hp
        · obtain rfl := List.mem_singleton.1 hp
          exact hc'.out, k1, k2, k3, hB1⟩
    | true =>
      have hc' := Lib.hid hc
      clear hc
      gi_wp2
      refine ⟨hkf.trans (((KeepsOthers.setCell _ _ _).trans ((KeepsOthers.setCell _ _ _).trans (KeepsOthers.setCell _ _ _))).from _), pre, x, ⟨rfl, rfl, h0, hc'.out⟩, ?_, ?_, ((hB1.setCell hw2 _).setCell hw2 _).setCell hw3 _⟩
      · exact blk_far (p := ⟨g3, 0, none⟩) (blk_put (blk_put k2 0 _ rfl) 1 _ rfl) hn23 _
      · exact blk_put (blk_far (p := ⟨g2, 1, none⟩) (blk_far (p := ⟨g2, 0, none⟩) k3 hn32 _) hn32 _) 0 _ rfl
  case done =>
    rintro D_ xs W hD hxs ⟨h0, h1, h2, h3, h4⟩ hK
    have hfc := Lib.hid (find_none hxs h0)
    clear h0
    have d0 := (blk_cell h2 0).trans rfl
    have d1 := (blk_cell h2 1).trans rfl
    have e0 := (blk_cell h3 0).trans rfl
    have f0 := blk_frozen h2 0
    have f1 := blk_frozen h2 1
    have f2 := blk_frozen h3 0
    have hn23 : g2 ≠ g3 := by omega
    have hn32 : g3 ≠ g2 := by omega
    have hw2 : w.heap.size ≤ g2 := by omega
    have hw3 : w.heap.size ≤ g3 := by omega
    gi_wp2
    have n2 := blk_far (p := ⟨g3, 0, none⟩) (blk_put (blk_put h2 0 (.int .i64 0) rfl) 1 (.int .i64 0) rfl) hn23 (.bool false)
    have n3 := blk_put (blk_far (p := ⟨g2, 1, none⟩) (blk_far (p := ⟨g2, 0, none⟩) h3 hn32 (.int .i64 0)) hn32 (.int .i64 0)) 0 (.bool false) rfl
    have hK1 : (((W.setCell ⟨g2, 0, none⟩ (.int .i64 0)).setCell ⟨g2, 1, none⟩ (.int .i64 0)).setCell ⟨g3, 0, none⟩ (.bool false)).heap[D_]? = some (.deferred (some [])) :=
      (Below.heap_setCell _ _ _ D_ (by show D_ ≠ g3; omega)).trans ((Below.heap_setCell _ _ _ D_ (by show D_ ≠ g2; omega)).trans ((Below.heap_setCell _ _ _ D_ (by show D_ ≠ g2; omega)).trans hK))
    have hB2 : Below w.heap.size w (((W.setCell ⟨g2, 0, none⟩ (.int .i64 0)).setCell ⟨g2, 1, none⟩ (.int .i64 0)).setCell ⟨g3, 0, none⟩ (.bool false)) := ((h4.setCell hw2 _).setCell hw2 _).setCell hw3 _
    refine ⟨by simp, .inl ⟨_, _, rfl, run_takeDeferred hK1, ?_⟩⟩
    exact ⟨_, results_cb rfl _ _ g2 g3 81 4 #[.int .i64 0, .int .i64 0] (.bool false) _ rfl ((World.putObj_heap_other (by omega)).trans n2) Try.underlying81 rfl (by kernel_rfl) rfl ((World.putObj_heap_other (by omega)).trans n3) Try.underlying4, by rw [hfc.out]; rfl, hB2.trans (belowK_b (w := w) (Nat.le_refl _) _ D_ _ _ (by omega) hK1 rfl rfl)⟩
  case stop =>
    rintro D_ c pre W hD hp ⟨ini, last, ⟨rfl, rfl, h1, h2⟩, h3, h4, h5⟩ hK
    have hfc := Lib.hid (find_some hp h1 h2)
    gi_wp2
    refine ⟨by simp, .inl ⟨_, _, rfl, run_takeDeferred hK, ?_⟩⟩
    exact ⟨_, results_cb rfl _ _ g2 g3 81 4 #[.int .i64 last.1.1, .int .i64 last.1.2] (.bool true) _ rfl ((World.putObj_heap_other (by omega)).trans h3) Try.underlying81 rfl (by kernel_rfl) rfl ((World.putObj_heap_other (by omega)).trans h4) Try.underlying4, by rw [hfc.out]; rfl, h5.trans (belowK_b (w := w) (Nat.le_refl _) _ D_ _ _ (by omega) hK rfl rfl)⟩
end Go.Proofs.Ytcjdhajdoikojaa.Clk
end
section
-- PRINTED by print.py (a twelfth state) out of the translation. Not trusted: Lean checks it.
namespace Go.Proofs.Ytcjdhajdoikojaa.Pr
open Go.RowKit Go.Proofs.YtcjdhajdoikojaaW.PrintWords Go.Proofs.YtcjdhajdoikojaaW.PrintLast Go.Proofs.YtcjdhajdoikojaaW.PrintMore
attribute [local go_sem] max2_int min2_int max_two min_two
set_option linter.unusedVariables false
set_option linter.unusedSimpArgs false

/-! ### clock_isTime: function 71 -/
def clock_isTime.f (a0 : Int) : Option (Bool) := if a0 ≥ 0 then (some (decide (a0 ≤ 1125899906842624))) else (some false)
set_option maxHeartbeats 8000000 in
set_option maxRecDepth 100000 in
theorem clock_isTime.calls (a0 : Int) (r : Bool) (w : World) (h : clock_isTime.f a0 = some r) :
    Calls Try.prog 71 #[.int .i64 a0] w fun e w' => e = .returned (.bool r) ∧ Drawn0 w w' := by
  have H : (if a0 ≥ 0 then (some (decide (a0 ≤ 1125899906842624))) else (some false)) = some r := h
  clear h
  by_cases c2 : a0 ≥ 0
  · rw [if_pos c2] at H
    have c2b0 : decide (0 ≤ a0) = true := decide_eq_true c2
    clear c2
    obtain rfl := Option.some.inj H
    go_enter Try.func71, Try.ntmps71
    go_wp2
    go_ret
    exact ⟨by first | rfl | (simp; done) | (simp [*]; done), by repeat (first | exact Drawn0.refl _ | apply Drawn0.step)⟩
  · rw [if_neg c2] at H
    have c2b0 : decide (0 ≤ a0) = false := decide_eq_false c2
    clear c2
    obtain rfl := Option.some.inj H
    go_enter Try.func71, Try.ntmps71
    go_wp2
    go_ret
    exact ⟨by first | rfl | (simp; done) | (simp [*]; done), by repeat (first | exact Drawn0.refl _ | apply Drawn0.step)⟩

end Go.Proofs.Ytcjdhajdoikojaa.Pr
end
section
-- PRINTED by print.py (a twelfth state) out of the translation. Not trusted: Lean checks it.
namespace Go.Proofs.Ytcjdhajdoikojaa.Pr
open Go.RowKit Go.Proofs.YtcjdhajdoikojaaW.PrintWords Go.Proofs.YtcjdhajdoikojaaW.PrintLast Go.Proofs.YtcjdhajdoikojaaW.PrintMore
attribute [local go_sem] max2_int min2_int max_two min_two
set_option linter.unusedVariables false
set_option linter.unusedSimpArgs false

/-! ### bound_check: function 96 -/
def bound_check.l0 : Nat → List (S35) → Int → Int → Option (Int)
  | 0, _, _, _ => none
  | k + 1, x5, x6, x7 => if x7 < x6 then (if 0 ≤ x7 then (if x7 < (x5.length : Int) then (if ((rd_T35 x5 x7).f0) > ((rd_T35 x5 x7).f1) then (some 2) else (if ((rd_T35 x5 x7).f0) < (-1073741824) then (some 2) else (if ((rd_T35 x5 x7).f1) > 1073741824 then (some 2) else (bound_check.l0 k x5 x6 (wrap64 (x7 + 1)))))) else (none)) else (none)) else (some 0)
def bound_check.f (k : Nat) (l0 : List (S35)) : Option (Int) := bound_check.l0 k l0 (l0.length : Int) 0
set_option maxHeartbeats 8000000 in
set_option maxRecDepth 100000 in
theorem bound_check.calls (k : Nat) (A0 : Option Addr) (c0 : Nat) (l0 : List (S35)) (r : Int) (w : World) (hr0 : Kd.C k35 w A0 l0.length l0) (hc0 : l0.length ≤ c0) (h : bound_check.f k l0 = some r) :
    Calls Try.prog 96 #[.slice A0 l0.length c0] w fun e w' => e = .returned (.int .i64 r) ∧ Below w.heap.size w w' := by
  have hu35 := Try.underlying35
  have HR0 := Aside0.mk hr0
  have HC0 := Aside0.mk hc0
  clear hr0 hc0
  have HB := Aside0.mk (Below.refl w.heap.size w)
  have H : (bound_check.l0 k l0 (l0.length : Int) 0) = some r := h
  clear h
  have H' := Aside0.mk H
  clear H
  go_enter Try.func96, Try.ntmps96
  go_wp2
  go_loopg [7] k (fun kq v7 w' => ∃ (x7_1 : Int), v7 = .int .i64 x7_1 ∧ Aside0 (bound_check.l0 kq l0 (l0.length : Int) x7_1 = some r) ∧ Aside0 (kq ≤ k) ∧ Aside0 (Below w.heap.size w w'))
  case atStart => exact ⟨(0), (by first | rfl | (simp; done) | (simp [*]; done)), H', ⟨Nat.le_refl _⟩, ⟨by repeat (first | (with_reducible first | exact HB.out | apply below_alloc | apply pw_below_drewN | apply below_drew1) | exact HB.out)⟩⟩
  case round =>
    clear H'
    obtain ⟨x7_1, rfl, HA, HK1, HB⟩ := hrel
    cases gk with
    | zero => exact absurd HA.out (by simp [bound_check.l0])
    | succ k1 =>
      have H := HA.out
      clear HA
      simp only [bound_check.l0] at H
      by_cases c2 : x7_1 < (l0.length : Int)
      · rw [if_pos c2] at H
        have c2b0 : decide (x7_1 < (l0.length : Int)) = true := decide_eq_true c2
        clear c2
        by_cases c3 : 0 ≤ x7_1
        · rw [if_pos c3] at H
          have c3b0 : decide (0 ≤ x7_1) = true := decide_eq_true c3
          clear c3
          by_cases c4 : x7_1 < (l0.length : Int)
          · rw [if_pos c4] at H
            have c4b0 : decide (x7_1 < (l0.length : Int)) = true := decide_eq_true c4
            clear c4
            by_cases c5 : ((rd_T35 l0 x7_1).f0) > ((rd_T35 l0 x7_1).f1)
            · rw [if_pos c5] at H
              have c5b0 : decide (((rd_T35 l0 x7_1).f1) < ((rd_T35 l0 x7_1).f0)) = true := decide_eq_true c5
              clear c5
              obtain rfl := Option.some.inj H
              have p156 : 0 ≤ (x7_1 : Int) := of_decide_eq_true (by first | (with_reducible assumption) | assumption)
              have q156 : x7_1 < (l0.length : Int) := of_decide_eq_true (by first | (with_reducible assumption) | assumption)
              obtain ⟨ad156, e156, hx156_0, hx156_1⟩ := at_T35 HR0.out x7_1 p156 q156
              cases e156
              replace hx156_0 := (HB.out.cell (World.block_lt_of_cell? w _ hx156_0)).trans hx156_0
              replace hx156_1 := (HB.out.cell (World.block_lt_of_cell? w _ hx156_1)).trans hx156_1
              replace p156 := eq_true p156
              replace q156 := eq_true q156
              go_wp2_with (first | ((with_reducible refine gate_dst (N := 4) rfl ?_); refine box_event ?hg (N := 4) ?hd (cs := #[.int .i64 0, .int .i64 0]) (t := 35) ?hr ?_; (case hd => rfl); (case hg => rfl); (case hr => first | (go_simp; done) | (go_simp; rfl)); intro gb157 hg w6 hbox hb; have n0_ := Aside0.mk (below_step (by repeat (first | (with_reducible first | exact HB.out | apply below_alloc | apply pw_below_drewN | apply below_drew1) | exact HB.out)) hb); have n1_ := Aside0.mk (hbox); have n2_ := Aside0.mk ((by rw [hg]; exact (below_size (by repeat (first | (with_reducible first | exact HB.out | apply below_alloc | apply pw_below_drewN | apply below_drew1) | exact HB.out))) : w.heap.size ≤ gb157)); have n3_ := Aside0.mk ((by rw [hg]; exact (below_size (by repeat (first | (with_reducible first | exact HB.out | apply below_alloc | apply pw_below_drewN | apply below_drew1) | exact HB.out))) : w.heap.size ≤ gb157)); clear HB; have HB := n0_; have BK157 := n1_; have GW157 := n2_; have GE157 := n3_; clear n0_ n1_ n2_ n3_; clear hb hbox hg; have hcz7_0 : w6.cell? ⟨gb157, 0, none⟩ = some (.int .i64 0) := (blk_cell BK157.out 0).trans rfl; have hcz7_1 : w6.cell? ⟨gb157, 1, none⟩ = some (.int .i64 0) := (blk_cell BK157.out 1).trans rfl; have hfz7_0 := blk_frozen BK157.out 0; have hfz7_1 := blk_frozen BK157.out 1))
              go_ret
              exact ⟨by first | rfl | (simp [errW_none, errW_some] <;> rfl) | (simp [*, errW_none, errW_some] <;> rfl), by repeat (first | (with_reducible first | exact HB.out | apply below_alloc | apply pw_below_drewN | apply below_drew1 | refine below_set ?_ GE157.out) | exact HB.out)⟩
            · rw [if_neg c5] at H
              have c5b0 : decide (((rd_T35 l0 x7_1).f1) < ((rd_T35 l0 x7_1).f0)) = false := decide_eq_false c5
              clear c5
              by_cases c8 : ((rd_T35 l0 x7_1).f0) < (-1073741824)
              · rw [if_pos c8] at H
                have c8b0 : decide (((rd_T35 l0 x7_1).f0) < (-1073741824)) = true := decide_eq_true c8
                clear c8
                obtain rfl := Option.some.inj H
                have p156 : 0 ≤ (x7_1 : Int) := of_decide_eq_true (by first | (with_reducible assumption) | assumption)
                have q156 : x7_1 < (l0.length : Int) := of_decide_eq_true (by first | (with_reducible assumption) | assumption)
                obtain ⟨ad156, e156, hx156_0, hx156_1⟩ := at_T35 HR0.out x7_1 p156 q156
                cases e156
                replace hx156_0 := (HB.out.cell (World.block_lt_of_cell? w _ hx156_0)).trans hx156_0
                replace hx156_1 := (HB.out.cell (World.block_lt_of_cell? w _ hx156_1)).trans hx156_1
                replace p156 := eq_true p156
                replace q156 := eq_true q156
                go_wp2_with (first | ((with_reducible refine gate_dst (N := 4) rfl ?_); refine box_event ?hg (N := 4) ?hd (cs := #[.int .i64 0, .int .i64 0]) (t := 35) ?hr ?_; (case hd => rfl); (case hg => rfl); (case hr => first | (go_simp; done) | (go_simp; rfl)); intro gb157 hg w9 hbox hb; have n0_ := Aside0.mk (below_step (by repeat (first | (with_reducible first | exact HB.out | apply below_alloc | apply pw_below_drewN | apply below_drew1) | exact HB.out)) hb); have n1_ := Aside0.mk (hbox); have n2_ := Aside0.mk ((by rw [hg]; exact (below_size (by repeat (first | (with_reducible first | exact HB.out | apply below_alloc | apply pw_below_drewN | apply below_drew1) | exact HB.out))) : w.heap.size ≤ gb157)); have n3_ := Aside0.mk ((by rw [hg]; exact (below_size (by repeat (first | (with_reducible first | exact HB.out | apply below_alloc | apply pw_below_drewN | apply below_drew1) | exact HB.out))) : w.heap.size ≤ gb157)); clear HB; have HB := n0_; have BK157 := n1_; have GW157 := n2_; have GE157 := n3_; clear n0_ n1_ n2_ n3_; clear hb hbox hg; have hcz10_0 : w9.cell? ⟨gb157, 0, none⟩ = some (.int .i64 0) := (blk_cell BK157.out 0).trans rfl; have hcz10_1 : w9.cell? ⟨gb157, 1, none⟩ = some (.int .i64 0) := (blk_cell BK157.out 1).trans rfl; have hfz10_0 := blk_frozen BK157.out 0; have hfz10_1 := blk_frozen BK157.out 1))
                go_ret
                exact ⟨by first | rfl | (simp [errW_none, errW_some] <;> rfl) | (simp [*, errW_none, errW_some] <;> rfl), by repeat (first | (with_reducible first | exact HB.out | apply below_alloc | apply pw_below_drewN | apply below_drew1 | refine below_set ?_ GE157.out) | exact HB.out)⟩
              · rw [if_neg c8] at H
                have c8b0 : decide (((rd_T35 l0 x7_1).f0) < (-1073741824)) = false := decide_eq_false c8
                clear c8
                by_cases c11 : ((rd_T35 l0 x7_1).f1) > 1073741824
                · rw [if_pos c11] at H
                  have c11b0 : decide (1073741824 < ((rd_T35 l0 x7_1).f1)) = true := decide_eq_true c11
                  clear c11
                  obtain rfl := Option.some.inj H
                  have p156 : 0 ≤ (x7_1 : Int) := of_decide_eq_true (by first | (with_reducible assumption) | assumption)
                  have q156 : x7_1 < (l0.length : Int) := of_decide_eq_true (by first | (with_reducible assumption) | assumption)
                  obtain ⟨ad156, e156, hx156_0, hx156_1⟩ := at_T35 HR0.out x7_1 p156 q156
                  cases e156
                  replace hx156_0 := (HB.out.cell (World.block_lt_of_cell? w _ hx156_0)).trans hx156_0
                  replace hx156_1 := (HB.out.cell (World.block_lt_of_cell? w _ hx156_1)).trans hx156_1
                  replace p156 := eq_true p156
                  replace q156 := eq_true q156
                  go_wp2_with (first | ((with_reducible refine gate_dst (N := 4) rfl ?_); refine box_event ?hg (N := 4) ?hd (cs := #[.int .i64 0, .int .i64 0]) (t := 35) ?hr ?_; (case hd => rfl); (case hg => rfl); (case hr => first | (go_simp; done) | (go_simp; rfl)); intro gb157 hg w12 hbox hb; have n0_ := Aside0.mk (below_step (by repeat (first | (with_reducible first | exact HB.out | apply below_alloc | apply pw_below_drewN | apply below_drew1) | exact HB.out)) hb); have n1_ := Aside0.mk (hbox); have n2_ := Aside0.mk ((by rw [hg]; exact (below_size (by repeat (first | (with_reducible first | exact HB.out | apply below_alloc | apply pw_below_drewN | apply below_drew1) | exact HB.out))) : w.heap.size ≤ gb157)); have n3_ := Aside0.mk ((by rw [hg]; exact (below_size (by repeat (first | (with_reducible first | exact HB.out | apply below_alloc | apply pw_below_drewN | apply below_drew1) | exact HB.out))) : w.heap.size ≤ gb157)); clear HB; have HB := n0_; have BK157 := n1_; have GW157 := n2_; have GE157 := n3_; clear n0_ n1_ n2_ n3_; clear hb hbox hg; have hcz13_0 : w12.cell? ⟨gb157, 0, none⟩ = some (.int .i64 0) := (blk_cell BK157.out 0).trans rfl; have hcz13_1 : w12.cell? ⟨gb157, 1, none⟩ = some (.int .i64 0) := (blk_cell BK157.out 1).trans rfl; have hfz13_0 := blk_frozen BK157.out 0; have hfz13_1 := blk_frozen BK157.out 1))
                  go_ret
                  exact ⟨by first | rfl | (simp [errW_none, errW_some] <;> rfl) | (simp [*, errW_none, errW_some] <;> rfl), by repeat (first | (with_reducible first | exact HB.out | apply below_alloc | apply pw_below_drewN | apply below_drew1 | refine below_set ?_ GE157.out) | exact HB.out)⟩
                · rw [if_neg c11] at H
                  have c11b0 : decide (1073741824 < ((rd_T35 l0 x7_1).f1)) = false := decide_eq_false c11
                  clear c11
                  have H' := Aside0.mk H
                  clear H
                  have p156 : 0 ≤ (x7_1 : Int) := of_decide_eq_true (by first | (with_reducible assumption) | assumption)
                  have q156 : x7_1 < (l0.length : Int) := of_decide_eq_true (by first | (with_reducible assumption) | assumption)
                  obtain ⟨ad156, e156, hx156_0, hx156_1⟩ := at_T35 HR0.out x7_1 p156 q156
                  cases e156
                  replace hx156_0 := (HB.out.cell (World.block_lt_of_cell? w _ hx156_0)).trans hx156_0
                  replace hx156_1 := (HB.out.cell (World.block_lt_of_cell? w _ hx156_1)).trans hx156_1
                  replace p156 := eq_true p156
                  replace q156 := eq_true q156
                  go_wp2_with (first | ((with_reducible refine gate_dst (N := 4) rfl ?_); refine box_event ?hg (N := 4) ?hd (cs := #[.int .i64 0, .int .i64 0]) (t := 35) ?hr ?_; (case hd => rfl); (case hg => rfl); (case hr => first | (go_simp; done) | (go_simp; rfl)); intro gb157 hg w14 hbox hb; have n0_ := Aside0.mk (below_step (by repeat (first | (with_reducible first | exact HB.out | apply below_alloc | apply pw_below_drewN | apply below_drew1) | exact HB.out)) hb); have n1_ := Aside0.mk (hbox); have n2_ := Aside0.mk ((by rw [hg]; exact (below_size (by repeat (first | (with_reducible first | exact HB.out | apply below_alloc | apply pw_below_drewN | apply below_drew1) | exact HB.out))) : w.heap.size ≤ gb157)); have n3_ := Aside0.mk ((by rw [hg]; exact (below_size (by repeat (first | (with_reducible first | exact HB.out | apply below_alloc | apply pw_below_drewN | apply below_drew1) | exact HB.out))) : w.heap.size ≤ gb157)); clear HB; have HB := n0_; have BK157 := n1_; have GW157 := n2_; have GE157 := n3_; clear n0_ n1_ n2_ n3_; clear hb hbox hg; have hcz15_0 : w14.cell? ⟨gb157, 0, none⟩ = some (.int .i64 0) := (blk_cell BK157.out 0).trans rfl; have hcz15_1 : w14.cell? ⟨gb157, 1, none⟩ = some (.int .i64 0) := (blk_cell BK157.out 1).trans rfl; have hfz15_0 := blk_frozen BK157.out 0; have hfz15_1 := blk_frozen BK157.out 1))
                  go_roundg k1
                  case measure => have := HK1.out; omega
                  case rel => exact ⟨(wrap64 (x7_1 + 1)), (by first | rfl | (simp; done) | (simp [*]; done)), H', ⟨by have := HK1.out; omega⟩, ⟨by repeat (first | (with_reducible first | exact HB.out | apply below_alloc | apply pw_below_drewN | apply below_drew1 | refine below_set ?_ GE157.out) | exact HB.out)⟩⟩
          · rw [if_neg c4] at H
            exact absurd H (by simp)
        · rw [if_neg c3] at H
          exact absurd H (by simp)
      · rw [if_neg c2] at H
        have c2b0 : decide (x7_1 < (l0.length : Int)) = false := decide_eq_false c2
        clear c2
        obtain rfl := Option.some.inj H
        go_wp2
        go_ret
        exact ⟨by first | rfl | (simp [errW_none, errW_some] <;> rfl) | (simp [*, errW_none, errW_some] <;> rfl), by repeat (first | (with_reducible first | exact HB.out | apply below_alloc | apply pw_below_drewN | apply below_drew1) | exact HB.out)⟩

end Go.Proofs.Ytcjdhajdoikojaa.Pr
end
section
-- PRINTED by print.py (a twelfth state) out of the translation. Not trusted: Lean checks it.
namespace Go.Proofs.Ytcjdhajdoikojaa.Pr
open Go.RowKit Go.Proofs.YtcjdhajdoikojaaW.PrintWords Go.Proofs.YtcjdhajdoikojaaW.PrintLast Go.Proofs.YtcjdhajdoikojaaW.PrintMore
attribute [local go_sem] max2_int min2_int max_two min_two
set_option linter.unusedVariables false
set_option linter.unusedSimpArgs false

/-! ### bound_Check: function 72 -/
def bound_Check.f (k : Nat) (a0_0 : Int) (a0_1 : Int) : Option (Int) := (bound_check.f k (([(⟨a0_0, a0_1⟩ : S35)] : List (S35)))).bind fun t162 => (some t162)
set_option maxHeartbeats 8000000 in
set_option maxRecDepth 100000 in
theorem bound_Check.calls (k : Nat) (a0_0 : Int) (a0_1 : Int) (r : Int) (w : World) (h : bound_Check.f k a0_0 a0_1 = some r) :
    Calls Try.prog 72 #[.agg #[.int .i64 a0_0, .int .i64 a0_1]] w fun e w' => e = .returned (.int .i64 r) ∧ Below w.heap.size w w' := by
  have hu35 := Try.underlying35
  have HB := Aside0.mk (Below.refl w.heap.size w)
  have H : ((bound_check.f k (([(⟨a0_0, a0_1⟩ : S35)] : List (S35)))).bind fun t162 => (some t162)) = some r := h
  clear h
  obtain ⟨y159, hy159⟩ : ∃ y_ : List (S35), y_ = (([(⟨a0_0, a0_1⟩ : S35)] : List (S35))) := ⟨_, rfl⟩
  replace H : ((bound_check.f k y159).bind fun t162 => (some t162)) = some r := by first | (rw [hy159]; with_reducible exact H) | (have H2_ := (Option.bind_some _ _).symm.trans H; rw [hy159]; with_reducible exact H2_) | (have H2_ := (Option.bind_some _ _).symm.trans H; with_reducible exact H2_) | with_reducible exact H | (rw [hy159]; exact H) | exact H
  have Ny159 := Aside0.mk hy159
  clear hy159
  replace H := Option.bind_eq_some_iff.mp H
  obtain ⟨t162, A20, H⟩ := H
  replace H : (some t162) = some r := H
  have A2 := Aside0.mk A20
  clear A20
  obtain rfl := Option.some.inj H
  go_enter Try.func72, Try.ntmps72
  go_wp2_with (first | ((with_reducible refine gate_dst (N := 1) rfl ?_); refine box_event ?hg (N := 1) ?hd (cs := #[.int .i64 a0_0, .int .i64 a0_1]) (t := 35) ?hr ?_; (case hd => rfl); (case hg => rfl); (case hr => first | (go_simp; done) | (go_simp; rfl)); intro gb158 hg w3 hbox hb; have n0_ := Aside0.mk (below_step (by repeat (first | (with_reducible first | exact HB.out | apply below_alloc | apply pw_below_drewN | apply below_drew1) | exact HB.out)) hb); have n1_ := Aside0.mk (hbox); have n2_ := Aside0.mk ((by rw [hg]; exact (below_size (by repeat (first | (with_reducible first | exact HB.out | apply below_alloc | apply pw_below_drewN | apply below_drew1) | exact HB.out))) : w.heap.size ≤ gb158)); have n3_ := Aside0.mk ((by rw [hg]; exact (below_size (by repeat (first | (with_reducible first | exact HB.out | apply below_alloc | apply pw_below_drewN | apply below_drew1) | exact HB.out))) : w.heap.size ≤ gb158)); clear HB; have HB := n0_; have BK158 := n1_; have GW158 := n2_; have GE158 := n3_; clear n0_ n1_ n2_ n3_; clear hb hbox hg; have hcz4_0 : w3.cell? ⟨gb158, 0, none⟩ = some (.int .i64 a0_0) := (blk_cell BK158.out 0).trans rfl; have hcz4_1 : w3.cell? ⟨gb158, 1, none⟩ = some (.int .i64 a0_1) := (blk_cell BK158.out 1).trans rfl; have hfz4_0 := blk_frozen BK158.out 0; have hfz4_1 := blk_frozen BK158.out 1) | ((with_reducible refine gate_dst (N := 4) rfl ?_); refine Kd.R_lit k35 _ 35 ?hg (N := 4) ?hd (xs := ([(⟨a0_0, a0_1⟩ : S35)] : List (S35))) (inner := [.int .i64 a0_0, .int .i64 a0_1]) (ok := fun _ => True) (okp := fun _ => True) ?hr ?hp (fun _ hk => hk) trivial (Below.refl _ _) (Nat.le_refl _) (by simp) ?_; (case hd => rfl); (case hg => rfl); (case hr => first | (go_simp; done) | (go_simp; rfl)); (case hp => exact (Reps.c2 (show Kd.M k35 _ _ _ (⟨a0_0, a0_1⟩ : S35) [.int .i64 a0_0, .int .i64 a0_1] from (k35_mkM _ _ _ (⟨a0_0, a0_1⟩ : S35) )) (Reps.none _ _))); intro v160 w5 ho6 hb hg_ hnew_; clear hg_ hnew_; (first | rw [← Ny159.out] at ho6 | (simp only [Int.reduceToNat] at ho6; rw [← Ny159.out] at ho6)); have n0_ := Aside0.mk (Kd.R_lower (Kd.R_newB ho6 (g := gb158) (o := .cells #[.int .i64 a0_0, .int .i64 a0_1] 35 (0, 0)) (by (with_reducible repeat (first | refine blk_drewN ?_ _ | refine blk_drew ?_ | refine blk_alloc ?_ _)); exact BK158.out)) (below_size (by repeat (first | (with_reducible first | exact HB.out | apply below_alloc | apply pw_below_drewN | apply below_drew1 | refine below_set ?_ GE158.out) | exact HB.out)))); have n1_ := Aside0.mk (blk_below (g := gb158) (o := .cells #[.int .i64 a0_0, .int .i64 a0_1] 35 (0, 0)) (by (with_reducible repeat (first | refine blk_drewN ?_ _ | refine blk_drew ?_ | refine blk_alloc ?_ _)); exact BK158.out) hb); have n2_ := Aside0.mk (below_step (by repeat (first | (with_reducible first | exact HB.out | apply below_alloc | apply pw_below_drewN | apply below_drew1 | refine below_set ?_ GE158.out) | exact HB.out)) hb); clear BK158; clear HB; have HO161 := n0_; have BK158 := n1_; have HB := n2_; clear n0_ n1_ n2_; clear hb ho6; obtain ⟨Ao7, co7, eo7⟩ := Kd.R_slice HO161.out; subst eo7) | ((with_reducible refine gate_callee (f := 96) rfl ?_); refine goesL_ (some 5) rfl rfl Try.func96 (by kernel_rfl) rfl #[.slice Ao7 y159.length co7] rfl (by (try simp only [List.map_toArray, List.map_cons, List.map_nil]); first | done | rfl | (simp only [List.length_drop, List.length_take]; rfl)) ?_; (with_reducible refine (bound_check.calls k _ _ y159 t162 _ ?side1 ?side2 A2.out).mono ?_); (case side1 => repeat (first | exact (Kd.R_reads' HO161.out).2.2 | (with_reducible refine Kd.C_alloc ?_ _) | (with_reducible refine Kd.C_drewN ?_ _) | (with_reducible refine Kd.C_drew ?_))); (case side2 => exact (Kd.R_reads' HO161.out).2.1); rintro e w8 ⟨rfl, hb⟩; refine ⟨_, rfl, ?_⟩; have n0_ := Aside0.mk (Kd.R_below (by (with_reducible repeat (first | apply Kd.R_alloc | apply Kd.R_drewN | apply Kd.R_drew)); exact HO161.out) hb); have n1_ := Aside0.mk (blk_below (g := gb158) (o := .cells #[.int .i64 a0_0, .int .i64 a0_1] 35 (0, 0)) (by (with_reducible repeat (first | refine blk_drewN ?_ _ | refine blk_drew ?_ | refine blk_alloc ?_ _)); exact BK158.out) hb); have n2_ := Aside0.mk (below_step (by repeat (first | (with_reducible first | exact HB.out | apply below_alloc | apply pw_below_drewN | apply below_drew1 | refine below_set ?_ GE158.out) | exact HB.out)) hb); clear HO161; clear BK158; clear HB; have HO161 := n0_; have BK158 := n1_; have HB := n2_; clear n0_ n1_ n2_; (try clear hb); (try clear hb2); (try clear hk); (try clear hi)))
  go_ret
  exact ⟨by first | rfl | (simp [errW_none, errW_some] <;> rfl) | (simp [*, errW_none, errW_some] <;> rfl), by repeat (first | (with_reducible first | exact HB.out | apply below_alloc | apply pw_below_drewN | apply below_drew1 | refine below_set ?_ GE158.out) | exact HB.out)⟩

end Go.Proofs.Ytcjdhajdoikojaa.Pr
end
