/- Part 6 of the proof of ClockOrder: what the functions compute. No condition. -/
import Derived.Test.YtcjdhajdoikojaaCoClockOrder3
import Derived.Test.YtcjdhajdoikojaaCoClockOrder5
set_option linter.unusedVariables false
set_option linter.unusedSimpArgs false
section
/- Whether two anchors contradict each other, as the program computes it. -/
namespace Go.Proofs.Ytcjdhajdoikojaa.Clk
open Go.RowKit Go.Shelf Go.Proofs.YtcjdhajdoikojaaW.PrintWords Go.Proofs.YtcjdhajdoikojaaW.PrintLast Go.Proofs.YtcjdhajdoikojaaW.PrintMore Go.Proofs.Ytcjdhajdoikojaa.Pr Go.Proofs.YtcjdhajdoikojaaW.Round
set_option linter.unusedVariables false
set_option linter.unusedSimpArgs false

/-- Two pairs are equal just if both numbers are. -/
theorem eqPair (d : Nat) (w : World) (x0 x1 y0 y1 : Int) : (Op.equalIn (d + 2) 81 (.agg #[.int .i64 x0, .int .i64 x1]) (.agg #[.int .i64 y0, .int .i64 y1])).run Try.prog w = .ok (x0 == y0 && (x1 == y1)) w := by
 have hu81 := Try.underlying81
 have hu3 := Try.underlying3
 have he : ∀ (a b : Int) (W : World), (Op.equalIn (d + 1) 3 (.int .i64 a) (.int .i64 b)).run Try.prog W = .ok (a == b) W := by
  intro a b W
  unfold Op.equalIn
  go_simp
 unfold Op.equalIn
 go_simp
 simp only [show List.range' 0 2 = [0, 1] from rfl, List.forIn_cons, List.forIn_nil]
 go_simp
 by_cases h0 : x0 = y0
 ·subst h0
  by_cases h1 : x1 = y1
  ·subst h1
   simp
   try go_simp
  ·have h1' : (x1 == y1) = false := by simp [h1]
   simp [h1']
   go_simp
   try exact h1
 ·have h0' : (x0 == y0) = false := by simp [h0]
  simp [h0']
  go_simp
  try exact fun e => absurd e h0
attribute [local go_sem high] eqPair
/-- Do the anchors i and k contradict each other? -/
def conI (rate : Int) (ys : List S105) (i k : Int) : Bool :=
 if i = k then false else !decide ((meetF [seenI rate (rd_T105 ys i) (rd_T105 ys k).f1, (rd_T105 ys k).f0]).1 ≤ (meetF [seenI rate (rd_T105 ys i) (rd_T105 ys k).f1, (rd_T105 ys k).f0]).2)

set_option maxRecDepth 100000 in
set_option maxHeartbeats 8000000 in
theorem con_any (b : Nat) (par rate : Int) (ys : List S105) (i k : Int) (h0 : 0 ≤ i) (h1 : i < (ys.length : Int)) (h2 : 0 ≤ k) (h3 : k < (ys.length : Int)) (hne : i ≠ k) (w : World) (hF : FaceAt w b par rate ys) :
  Calls Try.prog 76 #[.pointer (some ⟨b, 0, none⟩), .agg #[.int .i64 i, .int .i64 k]] w fun e w' => e = .returned (.bool (conI rate ys i k)) ∧ Below w.heap.size w w' := by
 have hu81 := Try.underlying81
 have hu35 := Try.underlying35
 have hu105 := Try.underlying105
 have hu109 := Try.underlying109
 have hki : (k == i) = false := beq_eq_false_iff_ne.mpr (fun e => hne e.symm)
 have hF0 := hF
 obtain ⟨A, c, mf, hlc, hC⟩ := hF
 obtain ⟨ad, rfl, hx0, hx1, hx2⟩ := at_T105 hC i h0 h1
 obtain ⟨ad_, e_, hy0, hy1, hy2⟩ := at_T105 hC k h2 h3
 cases e_
 have hcon : conI rate ys i k = !decide ((meetF [seenI rate (rd_T105 ys i) (rd_T105 ys k).f1, (rd_T105 ys k).f0]).1 ≤ (meetF [seenI rate (rd_T105 ys i) (rd_T105 ys k).f1, (rd_T105 ys k).f0]).2) := by unfold conI; rw [if_neg hne]
 have HC := Lib.hid hcon
 clear hcon hne hlc
 generalize rd_T105 ys i = Ai at hx0 hx1 hx2 HC
 generalize rd_T105 ys k = Ak at hy0 hy1 hy2 HC
 replace h0 := eq_true h0
 replace h1 := eq_true h1
 replace h2 := eq_true h2
 replace h3 := eq_true h3
 go_enter Try.func76, Try.ntmps76
 go_wp2
 have hl_f := blk_lt mf
 have m3 : Blk (w.alloc (.cells #[.int .i64 i, .int .i64 k] 81)) (w.heap.size) #[.int .i64 i, .int .i64 k] 81 := (by have h_ := blk_new w (.cells #[.int .i64 i, .int .i64 k] 81); first | exact h_ | (simp only [World.size_alloc] at h_; exact h_))
 replace mf : Blk (w.alloc (.cells #[.int .i64 i, .int .i64 k] 81)) b #[.int .i64 par, .int .i64 rate, .slice (some ad) ys.length c] 109 := (blk_alloc mf _)
 have mB : Below w.heap.size w (w.alloc (.cells #[.int .i64 i, .int .i64 k] 81)) := (below_alloc (Below.refl w.heap.size w) _)
 have hsz_ : w.heap.size ≤ w.heap.size := Nat.le_refl _
 generalize hW_ : (w.alloc (.cells #[.int .i64 i, .int .i64 k] 81)) = W1 at mf m3 mB ⊢
 clear hW_
 generalize hg3 : w.heap.size = g3 at m3 ⊢
 have hn_f_3 : b ≠ g3 := by omega
 have hn_3_f : g3 ≠ b := hn_f_3.symm
 have hG3 : w.heap.size ≤ g3 := by omega
 clear hsz_ hl_f
 try clear hg3
 have hs_W1 : w.heap.size ≤ W1.heap.size := mB.size
 replace mf := blk_drew mf
 replace m3 := blk_drew m3
 replace mB := below_drew1 mB
 refine start_ (n := 20) (S := fun w' => w'.cell? ⟨b, 0, none⟩ = some (.int .i64 par) ∧ w'.cell? ⟨b, 1, none⟩ = some (.int .i64 rate) ∧ w'.cell? ⟨b, 2, none⟩ = some (.slice (some ad) ys.length c) ∧ w'.cell? ⟨g3, 0, none⟩ = some (.int .i64 i) ∧ w'.cell? ⟨g3, 1, none⟩ = some (.int .i64 k) ∧ w'.cell? (ad.add (i.toNat * 3)) = some (.int .i64 Ai.f0.f0) ∧ w'.cell? ⟨(ad.add (i.toNat * 3)).block, (ad.add (i.toNat * 3)).off + 1, none⟩ = some (.int .i64 Ai.f0.f1) ∧ w'.cell? ⟨(ad.add (i.toNat * 3)).block, (ad.add (i.toNat * 3)).off + 2, none⟩ = some (.int .i64 Ai.f1) ∧ w'.cell? (ad.add (k.toNat * 3)) = some (.int .i64 Ak.f0.f0) ∧ w'.cell? ⟨(ad.add (k.toNat * 3)).block, (ad.add (k.toNat * 3)).off + 1, none⟩ = some (.int .i64 Ak.f0.f1) ∧ w'.cell? ⟨(ad.add (k.toNat * 3)).block, (ad.add (k.toNat * 3)).off + 2, none⟩ = some (.int .i64 Ak.f1)) (ds := []) #[false, false, false, false, false, false, false, false, false, false, false, false, false, false, false, false, false, false, false, false] zq1 rfl rfl ⟨((blk_cell mf 0).trans rfl), ((blk_cell mf 1).trans rfl), ((blk_cell mf 2).trans rfl), ((blk_cell m3 0).trans rfl), ((blk_cell m3 1).trans rfl), ((mB.cell (World.block_lt_of_cell? w _ hx0)).trans hx0), ((mB.cell (World.block_lt_of_cell? w _ hx1)).trans hx1), ((mB.cell (World.block_lt_of_cell? w _ hx2)).trans hx2), ((mB.cell (World.block_lt_of_cell? w _ hy0)).trans hy0), ((mB.cell (World.block_lt_of_cell? w _ hy1)).trans hy1), ((mB.cell (World.block_lt_of_cell? w _ hy2)).trans hy2)⟩ (fun hHeld => ?_)
 generalize hWd : World.drew _ = Wd at *
 clear hWd
 refine zpz (i := 0) (N := some 16) zq1 ?_
 refine zpz (i := 1) (N := some 17) zq1 ?_
 refine zpz (i := 2) (N := some 18) zq1 ?_
 refine zpz (i := 4) (N := some 20) zq1 ?_
 refine zpz (i := 8) (N := some 24) zq1 ?_
 refine zpz (i := 9) (N := some 25) zq1 ?_
 refine zpz (i := 10) (N := some 26) zq1 ?_
 refine zpz (i := 12) (N := some 28) zq1 ?_
 refine ztz (i := 3) (N := some 19) zq1 hHeld ?_
 refine ztz (i := 5) (N := some 21) zq1 hHeld ?_
 refine zpz (i := 6) (N := some 22) zq1 ?_
 refine ztz (i := 7) (N := some 23) zq1 hHeld ?_
 refine ztz (i := 11) (N := some 27) zq1 hHeld ?_
 refine ztz (i := 13) (N := some 29) zq1 hHeld ?_
 refine zpz (i := 14) (N := some 30) zq1 ?_
 refine ztz (i := 15) (N := some 31) zq1 hHeld ?_
 refine join_ (σ := Nat × Nat) 2 #[true, true, true, true, true, true, true, true, true, true, true, true, true, true, true, true, true, true, false, false] (fun s => [(5, .pointer (some ⟨s.1, 0, none⟩)), (6, .pointer (some ⟨s.2, 0, none⟩))]) (fun s w' => Blk w' b #[.int .i64 par, .int .i64 rate, .slice (some ad) ys.length c] 109 ∧ Blk w' g3 #[.int .i64 i, .int .i64 k] 81 ∧ Blk w' (s.1) #[.int .i64 0, .int .i64 0, .int .i64 0] 105 ∧ Blk w' (s.2) #[.int .i64 0, .int .i64 0, .int .i64 0] 105 ∧ Below w.heap.size w w' ∧ w.heap.size ≤ s.1 ∧ w.heap.size ≤ s.2 ∧ b ≠ s.1 ∧ g3 ≠ s.1 ∧ b ≠ s.2 ∧ g3 ≠ s.2 ∧ s.1 ≠ s.2) ?_ ?_
 rotate_left
 ·intro hCont
  refine two_ (i := 16) (j := 17) (Ni := some 5) (Nj := some 6) #[true, true, true, true, true, true, true, true, true, true, true, true, true, true, true, true, true, false, false, false] #[true, true, true, true, true, true, true, true, true, true, true, true, true, true, true, true, false, true, false, false] rfl rfl rfl rfl zq1 (by decide) (by decide) (fun K hK => ?_) (fun K hK => ?_)
  ·skip
   have hn_f_5 : b ≠ Wd.heap.size := by have h_ := blk_lt mf; omega
   have hn_3_5 : g3 ≠ Wd.heap.size := by have h_ := blk_lt m3; omega
   have hG5 : w.heap.size ≤ Wd.heap.size := by have h_ := mB.size; omega
   replace mf := blk_alloc mf (.cells #[.int .i64 0, .int .i64 0, .int .i64 0] 105)
   replace m3 := blk_alloc m3 (.cells #[.int .i64 0, .int .i64 0, .int .i64 0] 105)
   have m5 : Blk (Wd.alloc (.cells #[.int .i64 0, .int .i64 0, .int .i64 0] 105)) (Wd.heap.size) #[.int .i64 0, .int .i64 0, .int .i64 0] 105 := by have h_ := blk_new Wd (.cells #[.int .i64 0, .int .i64 0, .int .i64 0] 105); first | exact h_ | (simp only [World.size_alloc] at h_; exact h_)
   replace mB := below_alloc mB (.cells #[.int .i64 0, .int .i64 0, .int .i64 0] 105)
   refine value_ (w1 := ?_) (v := ?_) (by rfl) rfl ?_ ?_
   rotate_left 2
   ·go_simp
    constructor
    ·rfl
    ·rfl
   refine hK.out _ _ ⟨((blk_cell mf 0).trans rfl), ((blk_cell mf 1).trans rfl), ((blk_cell mf 2).trans rfl), ((blk_cell m3 0).trans rfl), ((blk_cell m3 1).trans rfl), ((mB.cell (World.block_lt_of_cell? w _ hx0)).trans hx0), ((mB.cell (World.block_lt_of_cell? w _ hx1)).trans hx1), ((mB.cell (World.block_lt_of_cell? w _ hx2)).trans hx2), ((mB.cell (World.block_lt_of_cell? w _ hy0)).trans hy0), ((mB.cell (World.block_lt_of_cell? w _ hy1)).trans hy1), ((mB.cell (World.block_lt_of_cell? w _ hy2)).trans hy2)⟩ (fun hHeld => ?_)
   clear hK K
   refine norm_ zq16 ?_
   refine one_ (i := 17) (N := some 6) #[true, true, true, true, true, true, true, true, true, true, true, true, true, true, true, true, true, true, false, false] rfl rfl zq1 (by decide) (fun K hK => ?_)
   have hn_f_6 : b ≠ Wd.heap.size + 1 := by have h_ := blk_lt mf; simp only [World.size_alloc] at h_; omega
   have hn_3_6 : g3 ≠ Wd.heap.size + 1 := by have h_ := blk_lt m3; simp only [World.size_alloc] at h_; omega
   have hn_5_6 : Wd.heap.size ≠ Wd.heap.size + 1 := by have h_ := blk_lt m5; simp only [World.size_alloc] at h_; omega
   have hG6 : w.heap.size ≤ Wd.heap.size + 1 := by have h_ := mB.size; simp only [World.size_alloc] at h_; omega
   replace mf := blk_alloc mf (.cells #[.int .i64 0, .int .i64 0, .int .i64 0] 105)
   replace m3 := blk_alloc m3 (.cells #[.int .i64 0, .int .i64 0, .int .i64 0] 105)
   replace m5 := blk_alloc m5 (.cells #[.int .i64 0, .int .i64 0, .int .i64 0] 105)
   have m6 : Blk ((Wd.alloc (.cells #[.int .i64 0, .int .i64 0, .int .i64 0] 105)).alloc (.cells #[.int .i64 0, .int .i64 0, .int .i64 0] 105)) (Wd.heap.size + 1) #[.int .i64 0, .int .i64 0, .int .i64 0] 105 := by have h_ := blk_new (Wd.alloc (.cells #[.int .i64 0, .int .i64 0, .int .i64 0] 105)) (.cells #[.int .i64 0, .int .i64 0, .int .i64 0] 105); first | exact h_ | (simp only [World.size_alloc] at h_; exact h_)
   replace mB := below_alloc mB (.cells #[.int .i64 0, .int .i64 0, .int .i64 0] 105)
   refine value_ (w1 := ?_) (v := ?_) (by rfl) rfl ?_ ?_
   rotate_left 2
   ·go_simp
    constructor
    ·rfl
    ·rfl
   refine hK.out _ _ ⟨((blk_cell mf 0).trans rfl), ((blk_cell mf 1).trans rfl), ((blk_cell mf 2).trans rfl), ((blk_cell m3 0).trans rfl), ((blk_cell m3 1).trans rfl), ((mB.cell (World.block_lt_of_cell? w _ hx0)).trans hx0), ((mB.cell (World.block_lt_of_cell? w _ hx1)).trans hx1), ((mB.cell (World.block_lt_of_cell? w _ hx2)).trans hx2), ((mB.cell (World.block_lt_of_cell? w _ hy0)).trans hy0), ((mB.cell (World.block_lt_of_cell? w _ hy1)).trans hy1), ((mB.cell (World.block_lt_of_cell? w _ hy2)).trans hy2)⟩ (fun hHeld => ?_)
   clear hK K
   refine norm_ zq13 ?_
   exact norm_ zq14 (hCont ((Wd.heap.size, Wd.heap.size + 1)) _ ⟨mf, m3, m5, m6, mB, hG5, hG6, hn_f_5, hn_3_5, hn_f_6, hn_3_6, hn_5_6⟩)
  ·skip
   have hn_f_6 : b ≠ Wd.heap.size := by have h_ := blk_lt mf; omega
   have hn_3_6 : g3 ≠ Wd.heap.size := by have h_ := blk_lt m3; omega
   have hG6 : w.heap.size ≤ Wd.heap.size := by have h_ := mB.size; omega
   replace mf := blk_alloc mf (.cells #[.int .i64 0, .int .i64 0, .int .i64 0] 105)
   replace m3 := blk_alloc m3 (.cells #[.int .i64 0, .int .i64 0, .int .i64 0] 105)
   have m6 : Blk (Wd.alloc (.cells #[.int .i64 0, .int .i64 0, .int .i64 0] 105)) (Wd.heap.size) #[.int .i64 0, .int .i64 0, .int .i64 0] 105 := by have h_ := blk_new Wd (.cells #[.int .i64 0, .int .i64 0, .int .i64 0] 105); first | exact h_ | (simp only [World.size_alloc] at h_; exact h_)
   replace mB := below_alloc mB (.cells #[.int .i64 0, .int .i64 0, .int .i64 0] 105)
   refine value_ (w1 := ?_) (v := ?_) (by rfl) rfl ?_ ?_
   rotate_left 2
   ·go_simp
    constructor
    ·rfl
    ·rfl
   refine hK.out _ _ ⟨((blk_cell mf 0).trans rfl), ((blk_cell mf 1).trans rfl), ((blk_cell mf 2).trans rfl), ((blk_cell m3 0).trans rfl), ((blk_cell m3 1).trans rfl), ((mB.cell (World.block_lt_of_cell? w _ hx0)).trans hx0), ((mB.cell (World.block_lt_of_cell? w _ hx1)).trans hx1), ((mB.cell (World.block_lt_of_cell? w _ hx2)).trans hx2), ((mB.cell (World.block_lt_of_cell? w _ hy0)).trans hy0), ((mB.cell (World.block_lt_of_cell? w _ hy1)).trans hy1), ((mB.cell (World.block_lt_of_cell? w _ hy2)).trans hy2)⟩ (fun hHeld => ?_)
   clear hK K
   refine norm_ zq13 ?_
   refine one_ (i := 16) (N := some 5) #[true, true, true, true, true, true, true, true, true, true, true, true, true, true, true, true, true, true, false, false] rfl rfl zq1 (by decide) (fun K hK => ?_)
   have hn_f_5 : b ≠ Wd.heap.size + 1 := by have h_ := blk_lt mf; simp only [World.size_alloc] at h_; omega
   have hn_3_5 : g3 ≠ Wd.heap.size + 1 := by have h_ := blk_lt m3; simp only [World.size_alloc] at h_; omega
   have hn_6_5 : Wd.heap.size ≠ Wd.heap.size + 1 := by have h_ := blk_lt m6; simp only [World.size_alloc] at h_; omega
   have hG5 : w.heap.size ≤ Wd.heap.size + 1 := by have h_ := mB.size; simp only [World.size_alloc] at h_; omega
   replace mf := blk_alloc mf (.cells #[.int .i64 0, .int .i64 0, .int .i64 0] 105)
   replace m3 := blk_alloc m3 (.cells #[.int .i64 0, .int .i64 0, .int .i64 0] 105)
   replace m6 := blk_alloc m6 (.cells #[.int .i64 0, .int .i64 0, .int .i64 0] 105)
   have m5 : Blk ((Wd.alloc (.cells #[.int .i64 0, .int .i64 0, .int .i64 0] 105)).alloc (.cells #[.int .i64 0, .int .i64 0, .int .i64 0] 105)) (Wd.heap.size + 1) #[.int .i64 0, .int .i64 0, .int .i64 0] 105 := by have h_ := blk_new (Wd.alloc (.cells #[.int .i64 0, .int .i64 0, .int .i64 0] 105)) (.cells #[.int .i64 0, .int .i64 0, .int .i64 0] 105); first | exact h_ | (simp only [World.size_alloc] at h_; exact h_)
   replace mB := below_alloc mB (.cells #[.int .i64 0, .int .i64 0, .int .i64 0] 105)
   refine value_ (w1 := ?_) (v := ?_) (by rfl) rfl ?_ ?_
   rotate_left 2
   ·go_simp
    constructor
    ·rfl
    ·rfl
   refine hK.out _ _ ⟨((blk_cell mf 0).trans rfl), ((blk_cell mf 1).trans rfl), ((blk_cell mf 2).trans rfl), ((blk_cell m3 0).trans rfl), ((blk_cell m3 1).trans rfl), ((mB.cell (World.block_lt_of_cell? w _ hx0)).trans hx0), ((mB.cell (World.block_lt_of_cell? w _ hx1)).trans hx1), ((mB.cell (World.block_lt_of_cell? w _ hx2)).trans hx2), ((mB.cell (World.block_lt_of_cell? w _ hy0)).trans hy0), ((mB.cell (World.block_lt_of_cell? w _ hy1)).trans hy1), ((mB.cell (World.block_lt_of_cell? w _ hy2)).trans hy2)⟩ (fun hHeld => ?_)
   clear hK K
   refine norm_ zq16 ?_
   exact norm_ zq14 (hCont ((Wd.heap.size + 1, Wd.heap.size)) _ ⟨mf, m3, m5, m6, mB, hG5, hG6, hn_f_5, hn_3_5, hn_f_6, hn_3_6, hn_6_5.symm⟩)
 rintro ⟨g5, g6⟩ Wf ⟨mf, m3, m5, m6, mB, hG5, hG6, hn_f_5, hn_3_5, hn_f_6, hn_3_6, hn_5_6⟩
 dsimp only at mf m3 m5 m6 mB hG5 hG6 hn_f_5 hn_3_5 hn_f_6 hn_3_6 hn_5_6
 have hHeld : (Wf.cell? ⟨b, 0, none⟩ = some (.int .i64 par) ∧ Wf.cell? ⟨b, 1, none⟩ = some (.int .i64 rate) ∧ Wf.cell? ⟨b, 2, none⟩ = some (.slice (some ad) ys.length c) ∧ Wf.cell? ⟨g3, 0, none⟩ = some (.int .i64 i) ∧ Wf.cell? ⟨g3, 1, none⟩ = some (.int .i64 k) ∧ Wf.cell? (ad.add (i.toNat * 3)) = some (.int .i64 Ai.f0.f0) ∧ Wf.cell? ⟨(ad.add (i.toNat * 3)).block, (ad.add (i.toNat * 3)).off + 1, none⟩ = some (.int .i64 Ai.f0.f1) ∧ Wf.cell? ⟨(ad.add (i.toNat * 3)).block, (ad.add (i.toNat * 3)).off + 2, none⟩ = some (.int .i64 Ai.f1) ∧ Wf.cell? (ad.add (k.toNat * 3)) = some (.int .i64 Ak.f0.f0) ∧ Wf.cell? ⟨(ad.add (k.toNat * 3)).block, (ad.add (k.toNat * 3)).off + 1, none⟩ = some (.int .i64 Ak.f0.f1) ∧ Wf.cell? ⟨(ad.add (k.toNat * 3)).block, (ad.add (k.toNat * 3)).off + 2, none⟩ = some (.int .i64 Ak.f1)) := ⟨((blk_cell mf 0).trans rfl), ((blk_cell mf 1).trans rfl), ((blk_cell mf 2).trans rfl), ((blk_cell m3 0).trans rfl), ((blk_cell m3 1).trans rfl), ((mB.cell (World.block_lt_of_cell? w _ hx0)).trans hx0), ((mB.cell (World.block_lt_of_cell? w _ hx1)).trans hx1), ((mB.cell (World.block_lt_of_cell? w _ hx2)).trans hx2), ((mB.cell (World.block_lt_of_cell? w _ hy0)).trans hy0), ((mB.cell (World.block_lt_of_cell? w _ hy1)).trans hy1), ((mB.cell (World.block_lt_of_cell? w _ hy2)).trans hy2)⟩
 refine norm_ (a' := ?_) ?_ ?_
 rotate_left
 ·simp only [putAll, Act.put, List.setIfInBounds_toArray, List.set_cons_zero, List.set_cons_succ]
  rfl
 refine one_ (i := 18) (N := none) #[true, true, true, true, true, true, true, true, true, true, true, true, true, true, true, true, true, true, true, false] rfl rfl zq1 (by decide) (fun K hK => ?_)
 have hn_6_5 := hn_5_6.symm
 have hf0_ := blk_frozen m5 0
 have hc0_ := (blk_cell m5 0).trans rfl
 have hf1_ := blk_frozen m5 1
 have hc1_ := (blk_cell m5 1).trans rfl
 have hf2_ := blk_frozen m5 2
 have hc2_ := (blk_cell m5 2).trans rfl
 refine skip_ (w1 := ?_) (by rfl) rfl ?_ ?_
 rotate_left
 ·go_simp
  rfl
 clear hf0_ hc0_ hf1_ hc1_ hf2_ hc2_
 replace mf : Blk (Wf.setCell ⟨g5, 0, none⟩ (.int .i64 Ai.f0.f0)) b #[.int .i64 par, .int .i64 rate, .slice (some ad) ys.length c] 109 := blk_far (p := ⟨g5, 0, none⟩) mf hn_f_5 _
 replace m3 : Blk (Wf.setCell ⟨g5, 0, none⟩ (.int .i64 Ai.f0.f0)) g3 #[.int .i64 i, .int .i64 k] 81 := blk_far (p := ⟨g5, 0, none⟩) m3 hn_3_5 _
 replace m6 : Blk (Wf.setCell ⟨g5, 0, none⟩ (.int .i64 Ai.f0.f0)) g6 #[.int .i64 0, .int .i64 0, .int .i64 0] 105 := blk_far (p := ⟨g5, 0, none⟩) m6 hn_6_5 _
 replace m5 : Blk (Wf.setCell ⟨g5, 0, none⟩ (.int .i64 Ai.f0.f0)) g5 #[.int .i64 Ai.f0.f0, .int .i64 0, .int .i64 0] 105 := blk_put m5 0 _ rfl
 replace mB : Below w.heap.size w (Wf.setCell ⟨g5, 0, none⟩ (.int .i64 Ai.f0.f0)) := mB.setCell (p := ⟨g5, 0, none⟩) hG5 _
 replace mf : Blk ((Wf.setCell ⟨g5, 0, none⟩ (.int .i64 Ai.f0.f0)).setCell ⟨g5, 1, none⟩ (.int .i64 Ai.f0.f1)) b #[.int .i64 par, .int .i64 rate, .slice (some ad) ys.length c] 109 := blk_far (p := ⟨g5, 1, none⟩) mf hn_f_5 _
 replace m3 : Blk ((Wf.setCell ⟨g5, 0, none⟩ (.int .i64 Ai.f0.f0)).setCell ⟨g5, 1, none⟩ (.int .i64 Ai.f0.f1)) g3 #[.int .i64 i, .int .i64 k] 81 := blk_far (p := ⟨g5, 1, none⟩) m3 hn_3_5 _
 replace m6 : Blk ((Wf.setCell ⟨g5, 0, none⟩ (.int .i64 Ai.f0.f0)).setCell ⟨g5, 1, none⟩ (.int .i64 Ai.f0.f1)) g6 #[.int .i64 0, .int .i64 0, .int .i64 0] 105 := blk_far (p := ⟨g5, 1, none⟩) m6 hn_6_5 _
 replace m5 : Blk ((Wf.setCell ⟨g5, 0, none⟩ (.int .i64 Ai.f0.f0)).setCell ⟨g5, 1, none⟩ (.int .i64 Ai.f0.f1)) g5 #[.int .i64 Ai.f0.f0, .int .i64 Ai.f0.f1, .int .i64 0] 105 := blk_put m5 1 _ rfl
 replace mB : Below w.heap.size w ((Wf.setCell ⟨g5, 0, none⟩ (.int .i64 Ai.f0.f0)).setCell ⟨g5, 1, none⟩ (.int .i64 Ai.f0.f1)) := mB.setCell (p := ⟨g5, 1, none⟩) hG5 _
 replace mf : Blk (((Wf.setCell ⟨g5, 0, none⟩ (.int .i64 Ai.f0.f0)).setCell ⟨g5, 1, none⟩ (.int .i64 Ai.f0.f1)).setCell ⟨g5, 2, none⟩ (.int .i64 Ai.f1)) b #[.int .i64 par, .int .i64 rate, .slice (some ad) ys.length c] 109 := blk_far (p := ⟨g5, 2, none⟩) mf hn_f_5 _
 replace m3 : Blk (((Wf.setCell ⟨g5, 0, none⟩ (.int .i64 Ai.f0.f0)).setCell ⟨g5, 1, none⟩ (.int .i64 Ai.f0.f1)).setCell ⟨g5, 2, none⟩ (.int .i64 Ai.f1)) g3 #[.int .i64 i, .int .i64 k] 81 := blk_far (p := ⟨g5, 2, none⟩) m3 hn_3_5 _
 replace m6 : Blk (((Wf.setCell ⟨g5, 0, none⟩ (.int .i64 Ai.f0.f0)).setCell ⟨g5, 1, none⟩ (.int .i64 Ai.f0.f1)).setCell ⟨g5, 2, none⟩ (.int .i64 Ai.f1)) g6 #[.int .i64 0, .int .i64 0, .int .i64 0] 105 := blk_far (p := ⟨g5, 2, none⟩) m6 hn_6_5 _
 replace m5 : Blk (((Wf.setCell ⟨g5, 0, none⟩ (.int .i64 Ai.f0.f0)).setCell ⟨g5, 1, none⟩ (.int .i64 Ai.f0.f1)).setCell ⟨g5, 2, none⟩ (.int .i64 Ai.f1)) g5 #[.int .i64 Ai.f0.f0, .int .i64 Ai.f0.f1, .int .i64 Ai.f1] 105 := blk_put m5 2 _ rfl
 replace mB : Below w.heap.size w (((Wf.setCell ⟨g5, 0, none⟩ (.int .i64 Ai.f0.f0)).setCell ⟨g5, 1, none⟩ (.int .i64 Ai.f0.f1)).setCell ⟨g5, 2, none⟩ (.int .i64 Ai.f1)) := mB.setCell (p := ⟨g5, 2, none⟩) hG5 _
 refine hK.out _ _ ⟨((blk_cell mf 0).trans rfl), ((blk_cell mf 1).trans rfl), ((blk_cell mf 2).trans rfl), ((blk_cell m3 0).trans rfl), ((blk_cell m3 1).trans rfl), ((mB.cell (World.block_lt_of_cell? w _ hx0)).trans hx0), ((mB.cell (World.block_lt_of_cell? w _ hx1)).trans hx1), ((mB.cell (World.block_lt_of_cell? w _ hx2)).trans hx2), ((mB.cell (World.block_lt_of_cell? w _ hy0)).trans hy0), ((mB.cell (World.block_lt_of_cell? w _ hy1)).trans hy1), ((mB.cell (World.block_lt_of_cell? w _ hy2)).trans hy2)⟩ (fun hHeld => ?_)
 clear hK K
 refine one_ (i := 19) (N := none) #[true, true, true, true, true, true, true, true, true, true, true, true, true, true, true, true, true, true, true, true] rfl rfl zq1 (by decide) (fun K hK => ?_)
 have hf0_ := blk_frozen m6 0
 have hc0_ := (blk_cell m6 0).trans rfl
 have hf1_ := blk_frozen m6 1
 have hc1_ := (blk_cell m6 1).trans rfl
 have hf2_ := blk_frozen m6 2
 have hc2_ := (blk_cell m6 2).trans rfl
 refine skip_ (w1 := ?_) (by rfl) rfl ?_ ?_
 rotate_left
 ·go_simp
  rfl
 clear hf0_ hc0_ hf1_ hc1_ hf2_ hc2_
 replace mf : Blk ((((Wf.setCell ⟨g5, 0, none⟩ (.int .i64 Ai.f0.f0)).setCell ⟨g5, 1, none⟩ (.int .i64 Ai.f0.f1)).setCell ⟨g5, 2, none⟩ (.int .i64 Ai.f1)).setCell ⟨g6, 0, none⟩ (.int .i64 Ak.f0.f0)) b #[.int .i64 par, .int .i64 rate, .slice (some ad) ys.length c] 109 := blk_far (p := ⟨g6, 0, none⟩) mf hn_f_6 _
 replace m3 : Blk ((((Wf.setCell ⟨g5, 0, none⟩ (.int .i64 Ai.f0.f0)).setCell ⟨g5, 1, none⟩ (.int .i64 Ai.f0.f1)).setCell ⟨g5, 2, none⟩ (.int .i64 Ai.f1)).setCell ⟨g6, 0, none⟩ (.int .i64 Ak.f0.f0)) g3 #[.int .i64 i, .int .i64 k] 81 := blk_far (p := ⟨g6, 0, none⟩) m3 hn_3_6 _
 replace m5 : Blk ((((Wf.setCell ⟨g5, 0, none⟩ (.int .i64 Ai.f0.f0)).setCell ⟨g5, 1, none⟩ (.int .i64 Ai.f0.f1)).setCell ⟨g5, 2, none⟩ (.int .i64 Ai.f1)).setCell ⟨g6, 0, none⟩ (.int .i64 Ak.f0.f0)) g5 #[.int .i64 Ai.f0.f0, .int .i64 Ai.f0.f1, .int .i64 Ai.f1] 105 := blk_far (p := ⟨g6, 0, none⟩) m5 hn_5_6 _
 replace m6 : Blk ((((Wf.setCell ⟨g5, 0, none⟩ (.int .i64 Ai.f0.f0)).setCell ⟨g5, 1, none⟩ (.int .i64 Ai.f0.f1)).setCell ⟨g5, 2, none⟩ (.int .i64 Ai.f1)).setCell ⟨g6, 0, none⟩ (.int .i64 Ak.f0.f0)) g6 #[.int .i64 Ak.f0.f0, .int .i64 0, .int .i64 0] 105 := blk_put m6 0 _ rfl
 replace mB : Below w.heap.size w ((((Wf.setCell ⟨g5, 0, none⟩ (.int .i64 Ai.f0.f0)).setCell ⟨g5, 1, none⟩ (.int .i64 Ai.f0.f1)).setCell ⟨g5, 2, none⟩ (.int .i64 Ai.f1)).setCell ⟨g6, 0, none⟩ (.int .i64 Ak.f0.f0)) := mB.setCell (p := ⟨g6, 0, none⟩) hG6 _
 replace mf : Blk (((((Wf.setCell ⟨g5, 0, none⟩ (.int .i64 Ai.f0.f0)).setCell ⟨g5, 1, none⟩ (.int .i64 Ai.f0.f1)).setCell ⟨g5, 2, none⟩ (.int .i64 Ai.f1)).setCell ⟨g6, 0, none⟩ (.int .i64 Ak.f0.f0)).setCell ⟨g6, 1, none⟩ (.int .i64 Ak.f0.f1)) b #[.int .i64 par, .int .i64 rate, .slice (some ad) ys.length c] 109 := blk_far (p := ⟨g6, 1, none⟩) mf hn_f_6 _
 replace m3 : Blk (((((Wf.setCell ⟨g5, 0, none⟩ (.int .i64 Ai.f0.f0)).setCell ⟨g5, 1, none⟩ (.int .i64 Ai.f0.f1)).setCell ⟨g5, 2, none⟩ (.int .i64 Ai.f1)).setCell ⟨g6, 0, none⟩ (.int .i64 Ak.f0.f0)).setCell ⟨g6, 1, none⟩ (.int .i64 Ak.f0.f1)) g3 #[.int .i64 i, .int .i64 k] 81 := blk_far (p := ⟨g6, 1, none⟩) m3 hn_3_6 _
 replace m5 : Blk (((((Wf.setCell ⟨g5, 0, none⟩ (.int .i64 Ai.f0.f0)).setCell ⟨g5, 1, none⟩ (.int .i64 Ai.f0.f1)).setCell ⟨g5, 2, none⟩ (.int .i64 Ai.f1)).setCell ⟨g6, 0, none⟩ (.int .i64 Ak.f0.f0)).setCell ⟨g6, 1, none⟩ (.int .i64 Ak.f0.f1)) g5 #[.int .i64 Ai.f0.f0, .int .i64 Ai.f0.f1, .int .i64 Ai.f1] 105 := blk_far (p := ⟨g6, 1, none⟩) m5 hn_5_6 _
 replace m6 : Blk (((((Wf.setCell ⟨g5, 0, none⟩ (.int .i64 Ai.f0.f0)).setCell ⟨g5, 1, none⟩ (.int .i64 Ai.f0.f1)).setCell ⟨g5, 2, none⟩ (.int .i64 Ai.f1)).setCell ⟨g6, 0, none⟩ (.int .i64 Ak.f0.f0)).setCell ⟨g6, 1, none⟩ (.int .i64 Ak.f0.f1)) g6 #[.int .i64 Ak.f0.f0, .int .i64 Ak.f0.f1, .int .i64 0] 105 := blk_put m6 1 _ rfl
 replace mB : Below w.heap.size w (((((Wf.setCell ⟨g5, 0, none⟩ (.int .i64 Ai.f0.f0)).setCell ⟨g5, 1, none⟩ (.int .i64 Ai.f0.f1)).setCell ⟨g5, 2, none⟩ (.int .i64 Ai.f1)).setCell ⟨g6, 0, none⟩ (.int .i64 Ak.f0.f0)).setCell ⟨g6, 1, none⟩ (.int .i64 Ak.f0.f1)) := mB.setCell (p := ⟨g6, 1, none⟩) hG6 _
 replace mf : Blk ((((((Wf.setCell ⟨g5, 0, none⟩ (.int .i64 Ai.f0.f0)).setCell ⟨g5, 1, none⟩ (.int .i64 Ai.f0.f1)).setCell ⟨g5, 2, none⟩ (.int .i64 Ai.f1)).setCell ⟨g6, 0, none⟩ (.int .i64 Ak.f0.f0)).setCell ⟨g6, 1, none⟩ (.int .i64 Ak.f0.f1)).setCell ⟨g6, 2, none⟩ (.int .i64 Ak.f1)) b #[.int .i64 par, .int .i64 rate, .slice (some ad) ys.length c] 109 := blk_far (p := ⟨g6, 2, none⟩) mf hn_f_6 _
 replace m3 : Blk ((((((Wf.setCell ⟨g5, 0, none⟩ (.int .i64 Ai.f0.f0)).setCell ⟨g5, 1, none⟩ (.int .i64 Ai.f0.f1)).setCell ⟨g5, 2, none⟩ (.int .i64 Ai.f1)).setCell ⟨g6, 0, none⟩ (.int .i64 Ak.f0.f0)).setCell ⟨g6, 1, none⟩ (.int .i64 Ak.f0.f1)).setCell ⟨g6, 2, none⟩ (.int .i64 Ak.f1)) g3 #[.int .i64 i, .int .i64 k] 81 := blk_far (p := ⟨g6, 2, none⟩) m3 hn_3_6 _
 replace m5 : Blk ((((((Wf.setCell ⟨g5, 0, none⟩ (.int .i64 Ai.f0.f0)).setCell ⟨g5, 1, none⟩ (.int .i64 Ai.f0.f1)).setCell ⟨g5, 2, none⟩ (.int .i64 Ai.f1)).setCell ⟨g6, 0, none⟩ (.int .i64 Ak.f0.f0)).setCell ⟨g6, 1, none⟩ (.int .i64 Ak.f0.f1)).setCell ⟨g6, 2, none⟩ (.int .i64 Ak.f1)) g5 #[.int .i64 Ai.f0.f0, .int .i64 Ai.f0.f1, .int .i64 Ai.f1] 105 := blk_far (p := ⟨g6, 2, none⟩) m5 hn_5_6 _
 replace m6 : Blk ((((((Wf.setCell ⟨g5, 0, none⟩ (.int .i64 Ai.f0.f0)).setCell ⟨g5, 1, none⟩ (.int .i64 Ai.f0.f1)).setCell ⟨g5, 2, none⟩ (.int .i64 Ai.f1)).setCell ⟨g6, 0, none⟩ (.int .i64 Ak.f0.f0)).setCell ⟨g6, 1, none⟩ (.int .i64 Ak.f0.f1)).setCell ⟨g6, 2, none⟩ (.int .i64 Ak.f1)) g6 #[.int .i64 Ak.f0.f0, .int .i64 Ak.f0.f1, .int .i64 Ak.f1] 105 := blk_put m6 2 _ rfl
 replace mB : Below w.heap.size w ((((((Wf.setCell ⟨g5, 0, none⟩ (.int .i64 Ai.f0.f0)).setCell ⟨g5, 1, none⟩ (.int .i64 Ai.f0.f1)).setCell ⟨g5, 2, none⟩ (.int .i64 Ai.f1)).setCell ⟨g6, 0, none⟩ (.int .i64 Ak.f0.f0)).setCell ⟨g6, 1, none⟩ (.int .i64 Ak.f0.f1)).setCell ⟨g6, 2, none⟩ (.int .i64 Ak.f1)) := mB.setCell (p := ⟨g6, 2, none⟩) hG6 _
 refine hK.out _ _ ⟨((blk_cell mf 0).trans rfl), ((blk_cell mf 1).trans rfl), ((blk_cell mf 2).trans rfl), ((blk_cell m3 0).trans rfl), ((blk_cell m3 1).trans rfl), ((mB.cell (World.block_lt_of_cell? w _ hx0)).trans hx0), ((mB.cell (World.block_lt_of_cell? w _ hx1)).trans hx1), ((mB.cell (World.block_lt_of_cell? w _ hx2)).trans hx2), ((mB.cell (World.block_lt_of_cell? w _ hy0)).trans hy0), ((mB.cell (World.block_lt_of_cell? w _ hy1)).trans hy1), ((mB.cell (World.block_lt_of_cell? w _ hy2)).trans hy2)⟩ (fun hHeld => ?_)
 clear hK K
 refine done_ zq1 ?_
 go_wp2
 try clear hHeld
 generalize hW_ : ((((((Wf.setCell ⟨g5, 0, none⟩ (.int .i64 Ai.f0.f0)).setCell ⟨g5, 1, none⟩ (.int .i64 Ai.f0.f1)).setCell ⟨g5, 2, none⟩ (.int .i64 Ai.f1)).setCell ⟨g6, 0, none⟩ (.int .i64 Ak.f0.f0)).setCell ⟨g6, 1, none⟩ (.int .i64 Ak.f0.f1)).setCell ⟨g6, 2, none⟩ (.int .i64 Ak.f1)) = W4 at mf m3 m5 m6 mB ⊢
 clear hW_
 replace mf := blk_drew mf
 replace m3 := blk_drew m3
 replace m5 := blk_drew m5
 replace m6 := blk_drew m6
 replace mB := below_drew1 mB
 refine start_ (n := 16) (S := fun w' => w'.cell? ⟨g5, 0, none⟩ = some (.int .i64 Ai.f0.f0) ∧ w'.cell? ⟨g5, 1, none⟩ = some (.int .i64 Ai.f0.f1) ∧ w'.cell? ⟨g5, 2, none⟩ = some (.int .i64 Ai.f1) ∧ w'.cell? ⟨g6, 0, none⟩ = some (.int .i64 Ak.f0.f0) ∧ w'.cell? ⟨g6, 1, none⟩ = some (.int .i64 Ak.f0.f1) ∧ w'.cell? ⟨g6, 2, none⟩ = some (.int .i64 Ak.f1)) (ds := []) #[false, false, false, false, false, false, false, false, false, false, false, false, false, false, false, false] zq1 rfl rfl ⟨((blk_cell m5 0).trans rfl), ((blk_cell m5 1).trans rfl), ((blk_cell m5 2).trans rfl), ((blk_cell m6 0).trans rfl), ((blk_cell m6 1).trans rfl), ((blk_cell m6 2).trans rfl)⟩ (fun hHeld => ?_)
 generalize hWd : World.drew _ = Wx at *
 clear hWd
 refine zpz (i := 0) (N := some 33) zq1 ?_
 refine zpz (i := 2) (N := some 35) zq1 ?_
 refine zpz (i := 5) (N := some 38) zq1 ?_
 refine ztz (i := 1) (N := some 34) zq1 hHeld ?_
 refine ztz (i := 3) (N := some 36) zq1 hHeld ?_
 refine ztz (i := 6) (N := some 39) zq1 hHeld ?_
 refine join_ (σ := Nat × Nat × Nat) 2 #[true, true, true, true, true, true, true, true, true, true, true, true, true, true, false, false] (fun s => [(37, .agg #[.int .i64 (seenI rate Ai Ak.f1).f0, .int .i64 (seenI rate Ai Ak.f1).f1]), (40, .slice (some ⟨s.1, 0, none⟩) 2 2), (41, .func (.func 101) #[] #[.pointer (some ⟨s.2.1, 0, none⟩)]), (42, .tuple #[.agg #[.int .i64 (meetF [seenI rate Ai Ak.f1, Ak.f0]).1, .int .i64 (meetF [seenI rate Ai Ak.f1, Ak.f0]).2], .bool (decide ((meetF [seenI rate Ai Ak.f1, Ak.f0]).1 ≤ (meetF [seenI rate Ai Ak.f1, Ak.f0]).2))]), (32, .tuple #[.agg #[.int .i64 (meetF [seenI rate Ai Ak.f1, Ak.f0]).1, .int .i64 (meetF [seenI rate Ai Ak.f1, Ak.f0]).2], .bool (decide ((meetF [seenI rate Ai Ak.f1, Ak.f0]).1 ≤ (meetF [seenI rate Ai Ak.f1, Ak.f0]).2))]), (43, .agg #[.int .i64 (meetF [seenI rate Ai Ak.f1, Ak.f0]).1, .int .i64 (meetF [seenI rate Ai Ak.f1, Ak.f0]).2]), (44, .bool (decide ((meetF [seenI rate Ai Ak.f1, Ak.f0]).1 ≤ (meetF [seenI rate Ai Ak.f1, Ak.f0]).2))), (7, .pointer (some ⟨s.2.2, 0, none⟩))]) (fun s w' => Blk w' b #[.int .i64 par, .int .i64 rate, .slice (some ad) ys.length c] 109 ∧ Blk w' g3 #[.int .i64 i, .int .i64 k] 81 ∧ Blk w' g5 #[.int .i64 Ai.f0.f0, .int .i64 Ai.f0.f1, .int .i64 Ai.f1] 105 ∧ Blk w' g6 #[.int .i64 Ak.f0.f0, .int .i64 Ak.f0.f1, .int .i64 Ak.f1] 105 ∧ Blk w' (s.1) #[.int .i64 (seenI rate Ai Ak.f1).f0, .int .i64 (seenI rate Ai Ak.f1).f1, .int .i64 Ak.f0.f0, .int .i64 Ak.f0.f1] 35 ∧ Blk w' (s.2.1) #[.slice (some ⟨s.1, 0, none⟩) 2 2] 65 ∧ Blk w' (s.2.2) #[.int .i64 0, .int .i64 0] 35 ∧ Below w.heap.size w w' ∧ w.heap.size ≤ s.1 ∧ w.heap.size ≤ s.2.1 ∧ w.heap.size ≤ s.2.2 ∧ b ≠ s.1 ∧ g3 ≠ s.1 ∧ g5 ≠ s.1 ∧ g6 ≠ s.1 ∧ b ≠ s.2.1 ∧ g3 ≠ s.2.1 ∧ g5 ≠ s.2.1 ∧ g6 ≠ s.2.1 ∧ s.1 ≠ s.2.1 ∧ b ≠ s.2.2 ∧ g3 ≠ s.2.2 ∧ g5 ≠ s.2.2 ∧ g6 ≠ s.2.2 ∧ s.1 ≠ s.2.2 ∧ s.2.1 ≠ s.2.2) ?_ ?_
 rotate_left
 ·intro hCont
  refine two_ (i := 4) (j := 13) (Ni := some 37) (Nj := some 7) #[true, true, true, true, true, true, true, false, false, false, false, false, false, false, false, false] #[true, true, true, true, false, true, true, false, false, false, false, false, false, true, false, false] rfl rfl rfl rfl zq1 (by decide) (by decide) (fun K hK => ?_) (fun K hK => ?_)
  ·skip
   have hcon_ := seen_any b par rate ys Ai Ak.f1 Wx (hF0.below mB)
   refine goes_ Try.func90 zq1 rfl #[.pointer (some ⟨b, 0, none⟩), .agg #[.int .i64 Ai.f0.f0, .int .i64 Ai.f0.f1, .int .i64 Ai.f1], .int .i64 Ak.f1] (by rfl) rfl rfl zq10 ?_
   with_reducible refine (hcon_).mono ?_
   rintro e w4 ⟨rfl, hb⟩
   refine ⟨_, rfl, ?_⟩
   clear hcon_
   replace mf := blk_below mf hb
   replace m3 := blk_below m3 hb
   replace m5 := blk_below m5 hb
   replace m6 := blk_below m6 hb
   replace mB := below_step mB hb
   clear hb
   refine hK.out _ _ ⟨((blk_cell m5 0).trans rfl), ((blk_cell m5 1).trans rfl), ((blk_cell m5 2).trans rfl), ((blk_cell m6 0).trans rfl), ((blk_cell m6 1).trans rfl), ((blk_cell m6 2).trans rfl)⟩ (fun hHeld => ?_)
   clear hK K
   refine norm_ zq17 ?_
   refine two_ (i := 7) (j := 13) (Ni := some 40) (Nj := some 7) #[true, true, true, true, true, true, true, true, false, false, false, false, false, false, false, false] #[true, true, true, true, true, true, true, false, false, false, false, false, false, true, false, false] rfl rfl rfl rfl zq1 (by decide) (by decide) (fun K hK => ?_) (fun K hK => ?_)
   ·skip
    have hn_f_R : b ≠ w4.heap.size := by have h_ := blk_lt mf; omega
    have hn_3_R : g3 ≠ w4.heap.size := by have h_ := blk_lt m3; omega
    have hn_5_R : g5 ≠ w4.heap.size := by have h_ := blk_lt m5; omega
    have hn_6_R : g6 ≠ w4.heap.size := by have h_ := blk_lt m6; omega
    have hGR : w.heap.size ≤ w4.heap.size := by have h_ := mB.size; omega
    replace mf := blk_alloc mf (.cells #[.int .i64 (seenI rate Ai Ak.f1).f0, .int .i64 (seenI rate Ai Ak.f1).f1, .int .i64 Ak.f0.f0, .int .i64 Ak.f0.f1] 35)
    replace m3 := blk_alloc m3 (.cells #[.int .i64 (seenI rate Ai Ak.f1).f0, .int .i64 (seenI rate Ai Ak.f1).f1, .int .i64 Ak.f0.f0, .int .i64 Ak.f0.f1] 35)
    replace m5 := blk_alloc m5 (.cells #[.int .i64 (seenI rate Ai Ak.f1).f0, .int .i64 (seenI rate Ai Ak.f1).f1, .int .i64 Ak.f0.f0, .int .i64 Ak.f0.f1] 35)
    replace m6 := blk_alloc m6 (.cells #[.int .i64 (seenI rate Ai Ak.f1).f0, .int .i64 (seenI rate Ai Ak.f1).f1, .int .i64 Ak.f0.f0, .int .i64 Ak.f0.f1] 35)
    have mR : Blk (w4.alloc (.cells #[.int .i64 (seenI rate Ai Ak.f1).f0, .int .i64 (seenI rate Ai Ak.f1).f1, .int .i64 Ak.f0.f0, .int .i64 Ak.f0.f1] 35)) (w4.heap.size) #[.int .i64 (seenI rate Ai Ak.f1).f0, .int .i64 (seenI rate Ai Ak.f1).f1, .int .i64 Ak.f0.f0, .int .i64 Ak.f0.f1] 35 := by have h_ := blk_new w4 (.cells #[.int .i64 (seenI rate Ai Ak.f1).f0, .int .i64 (seenI rate Ai Ak.f1).f1, .int .i64 Ak.f0.f0, .int .i64 Ak.f0.f1] 35); first | exact h_ | (simp only [World.size_alloc] at h_; exact h_)
    replace mB := below_alloc mB (.cells #[.int .i64 (seenI rate Ai Ak.f1).f0, .int .i64 (seenI rate Ai Ak.f1).f1, .int .i64 Ak.f0.f0, .int .i64 Ak.f0.f1] 35)
    refine value_ (w1 := ?_) (v := ?_) (by rfl) rfl ?_ ?_
    rotate_left 2
    ·go_simp
     constructor
     ·rfl
     ·rfl
    refine hK.out _ _ ⟨((blk_cell m5 0).trans rfl), ((blk_cell m5 1).trans rfl), ((blk_cell m5 2).trans rfl), ((blk_cell m6 0).trans rfl), ((blk_cell m6 1).trans rfl), ((blk_cell m6 2).trans rfl)⟩ (fun hHeld => ?_)
    clear hK K
    refine norm_ zq18 ?_
    refine two_ (i := 8) (j := 13) (Ni := some 41) (Nj := some 7) #[true, true, true, true, true, true, true, true, true, false, false, false, false, false, false, false] #[true, true, true, true, true, true, true, true, false, false, false, false, false, true, false, false] rfl rfl rfl rfl zq1 (by decide) (by decide) (fun K hK => ?_) (fun K hK => ?_)
    ·skip
     have hcon_ := values35_at (some ⟨w4.heap.size, 0, none⟩) 2 2 (w4.heap.size + 1) (w4.alloc (.cells #[.int .i64 (seenI rate Ai Ak.f1).f0, .int .i64 (seenI rate Ai Ak.f1).f1, .int .i64 Ak.f0.f0, .int .i64 Ak.f0.f1] 35)) zq19
     have hn_f_V : b ≠ w4.heap.size + 1 := by have h_ := blk_lt mf; simp only [World.size_alloc] at h_; omega
     have hn_3_V : g3 ≠ w4.heap.size + 1 := by have h_ := blk_lt m3; simp only [World.size_alloc] at h_; omega
     have hn_5_V : g5 ≠ w4.heap.size + 1 := by have h_ := blk_lt m5; simp only [World.size_alloc] at h_; omega
     have hn_6_V : g6 ≠ w4.heap.size + 1 := by have h_ := blk_lt m6; simp only [World.size_alloc] at h_; omega
     have hn_R_V : w4.heap.size ≠ w4.heap.size + 1 := by have h_ := blk_lt mR; simp only [World.size_alloc] at h_; omega
     have hGV : w.heap.size ≤ w4.heap.size + 1 := by have h_ := mB.size; simp only [World.size_alloc] at h_; omega
     replace mf := blk_alloc mf (.cells #[.slice (some ⟨w4.heap.size, 0, none⟩) 2 2] 65)
     replace m3 := blk_alloc m3 (.cells #[.slice (some ⟨w4.heap.size, 0, none⟩) 2 2] 65)
     replace m5 := blk_alloc m5 (.cells #[.slice (some ⟨w4.heap.size, 0, none⟩) 2 2] 65)
     replace m6 := blk_alloc m6 (.cells #[.slice (some ⟨w4.heap.size, 0, none⟩) 2 2] 65)
     replace mR := blk_alloc mR (.cells #[.slice (some ⟨w4.heap.size, 0, none⟩) 2 2] 65)
     have mV : Blk ((w4.alloc (.cells #[.int .i64 (seenI rate Ai Ak.f1).f0, .int .i64 (seenI rate Ai Ak.f1).f1, .int .i64 Ak.f0.f0, .int .i64 Ak.f0.f1] 35)).alloc (.cells #[.slice (some ⟨w4.heap.size, 0, none⟩) 2 2] 65)) (w4.heap.size + 1) #[.slice (some ⟨w4.heap.size, 0, none⟩) 2 2] 65 := by have h_ := blk_new (w4.alloc (.cells #[.int .i64 (seenI rate Ai Ak.f1).f0, .int .i64 (seenI rate Ai Ak.f1).f1, .int .i64 Ak.f0.f0, .int .i64 Ak.f0.f1] 35)) (.cells #[.slice (some ⟨w4.heap.size, 0, none⟩) 2 2] 65); first | exact h_ | (simp only [World.size_alloc] at h_; exact h_)
     replace mB := below_alloc mB (.cells #[.slice (some ⟨w4.heap.size, 0, none⟩) 2 2] 65)
     refine goes_ Try.func84 zq1 rfl #[.slice (some ⟨w4.heap.size, 0, none⟩) 2 2] (by rfl) rfl rfl zq10 ?_
     with_reducible refine (hcon_).mono ?_
     rintro e W_ ⟨rfl, rfl⟩
     refine ⟨_, rfl, ?_⟩
     clear hcon_
     refine hK.out _ _ ⟨((blk_cell m5 0).trans rfl), ((blk_cell m5 1).trans rfl), ((blk_cell m5 2).trans rfl), ((blk_cell m6 0).trans rfl), ((blk_cell m6 1).trans rfl), ((blk_cell m6 2).trans rfl)⟩ (fun hHeld => ?_)
     clear hK K
     refine norm_ zq20 ?_
     refine two_ (i := 9) (j := 13) (Ni := some 42) (Nj := some 7) #[true, true, true, true, true, true, true, true, true, true, false, false, false, false, false, false] #[true, true, true, true, true, true, true, true, true, false, false, false, false, true, false, false] rfl rfl rfl rfl zq1 (by decide) (by decide) (fun K hK => ?_) (fun K hK => ?_)
     ·skip
      have hcon_ := meet35_any 101 85 #[.pointer (some ⟨w4.heap.size + 1, 0, none⟩)] #[] ((w4.alloc (.cells #[.int .i64 (seenI rate Ai Ak.f1).f0, .int .i64 (seenI rate Ai Ak.f1).f1, .int .i64 Ak.f0.f0, .int .i64 Ak.f0.f1] 35)).alloc (.cells #[.slice (some ⟨w4.heap.size, 0, none⟩) 2 2] 65)) [(seenI rate Ai Ak.f1), Ak.f0] id (enters_of Try.func101 zq1 rfl) (enters_of Try.func85 zq1 rfl) (fun W_ hb_ => values35_stops 5 (by omega) (w4.heap.size + 1) ((w4.alloc (.cells #[.int .i64 (seenI rate Ai Ak.f1).f0, .int .i64 (seenI rate Ai Ak.f1).f1, .int .i64 Ak.f0.f0, .int .i64 Ak.f0.f1] 35)).alloc (.cells #[.slice (some ⟨w4.heap.size, 0, none⟩) 2 2] 65)) W_ (some ⟨w4.heap.size, 0, none⟩) 2 [(seenI rate Ai Ak.f1), Ak.f0] (by simp) (C_two (x := (seenI rate Ai Ak.f1)) (y := Ak.f0) mR) hb_ (Nat.lt_of_lt_of_le (blk_lt mV) hb_.size) ((blk_cell (blk_below mV hb_) 0).trans rfl)) itself_span
      refine goes_ Try.func83 zq1 rfl #[.func (.func 101) #[] #[.pointer (some ⟨w4.heap.size + 1, 0, none⟩)], .func (.func 85) #[] #[]] (by rfl) rfl rfl zq10 ?_
      with_reducible refine (hcon_).mono ?_
      rintro e w9 ⟨rfl, hb⟩
      refine ⟨_, rfl, ?_⟩
      clear hcon_
      replace mf := blk_below mf hb
      replace m3 := blk_below m3 hb
      replace m5 := blk_below m5 hb
      replace m6 := blk_below m6 hb
      replace mR := blk_below mR hb
      replace mV := blk_below mV hb
      replace mB := below_step mB hb
      clear hb
      refine hK.out _ _ ⟨((blk_cell m5 0).trans rfl), ((blk_cell m5 1).trans rfl), ((blk_cell m5 2).trans rfl), ((blk_cell m6 0).trans rfl), ((blk_cell m6 1).trans rfl), ((blk_cell m6 2).trans rfl)⟩ (fun hHeld => ?_)
      clear hK K
      refine norm_ zq21 ?_
      refine zpz (i := 10) (N := some 32) zq1 ?_
      refine zpz (i := 11) (N := some 43) zq1 ?_
      refine zpz (i := 12) (N := some 44) zq1 ?_
      refine one_ (i := 13) (N := some 7) #[true, true, true, true, true, true, true, true, true, true, true, true, true, true, false, false] rfl rfl zq1 (by decide) (fun K hK => ?_)
      have hn_f_7 : b ≠ w9.heap.size := by have h_ := blk_lt mf; omega
      have hn_3_7 : g3 ≠ w9.heap.size := by have h_ := blk_lt m3; omega
      have hn_5_7 : g5 ≠ w9.heap.size := by have h_ := blk_lt m5; omega
      have hn_6_7 : g6 ≠ w9.heap.size := by have h_ := blk_lt m6; omega
      have hn_R_7 : w4.heap.size ≠ w9.heap.size := by have h_ := blk_lt mR; omega
      have hn_V_7 : w4.heap.size + 1 ≠ w9.heap.size := by have h_ := blk_lt mV; omega
      have hG7 : w.heap.size ≤ w9.heap.size := by have h_ := mB.size; omega
      replace mf := blk_alloc mf (.cells #[.int .i64 0, .int .i64 0] 35)
      replace m3 := blk_alloc m3 (.cells #[.int .i64 0, .int .i64 0] 35)
      replace m5 := blk_alloc m5 (.cells #[.int .i64 0, .int .i64 0] 35)
      replace m6 := blk_alloc m6 (.cells #[.int .i64 0, .int .i64 0] 35)
      replace mR := blk_alloc mR (.cells #[.int .i64 0, .int .i64 0] 35)
      replace mV := blk_alloc mV (.cells #[.int .i64 0, .int .i64 0] 35)
      have m7 : Blk (w9.alloc (.cells #[.int .i64 0, .int .i64 0] 35)) (w9.heap.size) #[.int .i64 0, .int .i64 0] 35 := by have h_ := blk_new w9 (.cells #[.int .i64 0, .int .i64 0] 35); first | exact h_ | (simp only [World.size_alloc] at h_; exact h_)
      replace mB := below_alloc mB (.cells #[.int .i64 0, .int .i64 0] 35)
      refine value_ (w1 := ?_) (v := ?_) (by rfl) rfl ?_ ?_
      rotate_left 2
      ·go_simp
       constructor
       ·rfl
       ·rfl
      refine hK.out _ _ ⟨((blk_cell m5 0).trans rfl), ((blk_cell m5 1).trans rfl), ((blk_cell m5 2).trans rfl), ((blk_cell m6 0).trans rfl), ((blk_cell m6 1).trans rfl), ((blk_cell m6 2).trans rfl)⟩ (fun hHeld => ?_)
      clear hK K
      refine norm_ zq22 ?_
      exact norm_ zq14 (hCont ((w4.heap.size, w4.heap.size + 1, w9.heap.size)) _ ⟨mf, m3, m5, m6, mR, mV, m7, mB, hGR, hGV, hG7, hn_f_R, hn_3_R, hn_5_R, hn_6_R, hn_f_V, hn_3_V, hn_5_V, hn_6_V, hn_R_V, hn_f_7, hn_3_7, hn_5_7, hn_6_7, hn_R_7, hn_V_7⟩)
     ·skip
      have hn_f_7 : b ≠ w4.heap.size + 1 + 1 := by have h_ := blk_lt mf; simp only [World.size_alloc] at h_; omega
      have hn_3_7 : g3 ≠ w4.heap.size + 1 + 1 := by have h_ := blk_lt m3; simp only [World.size_alloc] at h_; omega
      have hn_5_7 : g5 ≠ w4.heap.size + 1 + 1 := by have h_ := blk_lt m5; simp only [World.size_alloc] at h_; omega
      have hn_6_7 : g6 ≠ w4.heap.size + 1 + 1 := by have h_ := blk_lt m6; simp only [World.size_alloc] at h_; omega
      have hn_R_7 : w4.heap.size ≠ w4.heap.size + 1 + 1 := by have h_ := blk_lt mR; simp only [World.size_alloc] at h_; omega
      have hn_V_7 : w4.heap.size + 1 ≠ w4.heap.size + 1 + 1 := by have h_ := blk_lt mV; simp only [World.size_alloc] at h_; omega
      have hG7 : w.heap.size ≤ w4.heap.size + 1 + 1 := by have h_ := mB.size; simp only [World.size_alloc] at h_; omega
      replace mf := blk_alloc mf (.cells #[.int .i64 0, .int .i64 0] 35)
      replace m3 := blk_alloc m3 (.cells #[.int .i64 0, .int .i64 0] 35)
      replace m5 := blk_alloc m5 (.cells #[.int .i64 0, .int .i64 0] 35)
      replace m6 := blk_alloc m6 (.cells #[.int .i64 0, .int .i64 0] 35)
      replace mR := blk_alloc mR (.cells #[.int .i64 0, .int .i64 0] 35)
      replace mV := blk_alloc mV (.cells #[.int .i64 0, .int .i64 0] 35)
      have m7 : Blk (((w4.alloc (.cells #[.int .i64 (seenI rate Ai Ak.f1).f0, .int .i64 (seenI rate Ai Ak.f1).f1, .int .i64 Ak.f0.f0, .int .i64 Ak.f0.f1] 35)).alloc (.cells #[.slice (some ⟨w4.heap.size, 0, none⟩) 2 2] 65)).alloc (.cells #[.int .i64 0, .int .i64 0] 35)) (w4.heap.size + 1 + 1) #[.int .i64 0, .int .i64 0] 35 := by have h_ := blk_new ((w4.alloc (.cells #[.int .i64 (seenI rate Ai Ak.f1).f0, .int .i64 (seenI rate Ai Ak.f1).f1, .int .i64 Ak.f0.f0, .int .i64 Ak.f0.f1] 35)).alloc (.cells #[.slice (some ⟨w4.heap.size, 0, none⟩) 2 2] 65)) (.cells #[.int .i64 0, .int .i64 0] 35); first | exact h_ | (simp only [World.size_alloc] at h_; exact h_)
      replace mB := below_alloc mB (.cells #[.int .i64 0, .int .i64 0] 35)
      refine value_ (w1 := ?_) (v := ?_) (by rfl) rfl ?_ ?_
      rotate_left 2
      ·go_simp
       constructor
       ·rfl
       ·rfl
      refine hK.out _ _ ⟨((blk_cell m5 0).trans rfl), ((blk_cell m5 1).trans rfl), ((blk_cell m5 2).trans rfl), ((blk_cell m6 0).trans rfl), ((blk_cell m6 1).trans rfl), ((blk_cell m6 2).trans rfl)⟩ (fun hHeld => ?_)
      clear hK K
      refine norm_ zq22 ?_
      refine one_ (i := 9) (N := some 42) #[true, true, true, true, true, true, true, true, true, true, false, false, false, true, false, false] rfl rfl zq1 (by decide) (fun K hK => ?_)
      have hcon_ := meet35_any 101 85 #[.pointer (some ⟨w4.heap.size + 1, 0, none⟩)] #[] (((w4.alloc (.cells #[.int .i64 (seenI rate Ai Ak.f1).f0, .int .i64 (seenI rate Ai Ak.f1).f1, .int .i64 Ak.f0.f0, .int .i64 Ak.f0.f1] 35)).alloc (.cells #[.slice (some ⟨w4.heap.size, 0, none⟩) 2 2] 65)).alloc (.cells #[.int .i64 0, .int .i64 0] 35)) [(seenI rate Ai Ak.f1), Ak.f0] id (enters_of Try.func101 zq1 rfl) (enters_of Try.func85 zq1 rfl) (fun W_ hb_ => values35_stops 5 (by omega) (w4.heap.size + 1) (((w4.alloc (.cells #[.int .i64 (seenI rate Ai Ak.f1).f0, .int .i64 (seenI rate Ai Ak.f1).f1, .int .i64 Ak.f0.f0, .int .i64 Ak.f0.f1] 35)).alloc (.cells #[.slice (some ⟨w4.heap.size, 0, none⟩) 2 2] 65)).alloc (.cells #[.int .i64 0, .int .i64 0] 35)) W_ (some ⟨w4.heap.size, 0, none⟩) 2 [(seenI rate Ai Ak.f1), Ak.f0] (by simp) (C_two (x := (seenI rate Ai Ak.f1)) (y := Ak.f0) mR) hb_ (Nat.lt_of_lt_of_le (blk_lt mV) hb_.size) ((blk_cell (blk_below mV hb_) 0).trans rfl)) itself_span
      refine goes_ Try.func83 zq1 rfl #[.func (.func 101) #[] #[.pointer (some ⟨w4.heap.size + 1, 0, none⟩)], .func (.func 85) #[] #[]] (by rfl) rfl rfl zq10 ?_
      with_reducible refine (hcon_).mono ?_
      rintro e w9 ⟨rfl, hb⟩
      refine ⟨_, rfl, ?_⟩
      clear hcon_
      replace mf := blk_below mf hb
      replace m3 := blk_below m3 hb
      replace m5 := blk_below m5 hb
      replace m6 := blk_below m6 hb
      replace mR := blk_below mR hb
      replace mV := blk_below mV hb
      replace m7 := blk_below m7 hb
      replace mB := below_step mB hb
      clear hb
      refine hK.out _ _ ⟨((blk_cell m5 0).trans rfl), ((blk_cell m5 1).trans rfl), ((blk_cell m5 2).trans rfl), ((blk_cell m6 0).trans rfl), ((blk_cell m6 1).trans rfl), ((blk_cell m6 2).trans rfl)⟩ (fun hHeld => ?_)
      clear hK K
      refine norm_ zq21 ?_
      refine zpz (i := 10) (N := some 32) zq1 ?_
      refine zpz (i := 11) (N := some 43) zq1 ?_
      refine zpz (i := 12) (N := some 44) zq1 ?_
      exact norm_ zq14 (hCont ((w4.heap.size, w4.heap.size + 1, w4.heap.size + 1 + 1)) _ ⟨mf, m3, m5, m6, mR, mV, m7, mB, hGR, hGV, hG7, hn_f_R, hn_3_R, hn_5_R, hn_6_R, hn_f_V, hn_3_V, hn_5_V, hn_6_V, hn_R_V, hn_f_7, hn_3_7, hn_5_7, hn_6_7, hn_R_7, hn_V_7⟩)
    ·skip
     have hn_f_7 : b ≠ w4.heap.size + 1 := by have h_ := blk_lt mf; simp only [World.size_alloc] at h_; omega
     have hn_3_7 : g3 ≠ w4.heap.size + 1 := by have h_ := blk_lt m3; simp only [World.size_alloc] at h_; omega
     have hn_5_7 : g5 ≠ w4.heap.size + 1 := by have h_ := blk_lt m5; simp only [World.size_alloc] at h_; omega
     have hn_6_7 : g6 ≠ w4.heap.size + 1 := by have h_ := blk_lt m6; simp only [World.size_alloc] at h_; omega
     have hn_R_7 : w4.heap.size ≠ w4.heap.size + 1 := by have h_ := blk_lt mR; simp only [World.size_alloc] at h_; omega
     have hG7 : w.heap.size ≤ w4.heap.size + 1 := by have h_ := mB.size; simp only [World.size_alloc] at h_; omega
     replace mf := blk_alloc mf (.cells #[.int .i64 0, .int .i64 0] 35)
     replace m3 := blk_alloc m3 (.cells #[.int .i64 0, .int .i64 0] 35)
     replace m5 := blk_alloc m5 (.cells #[.int .i64 0, .int .i64 0] 35)
     replace m6 := blk_alloc m6 (.cells #[.int .i64 0, .int .i64 0] 35)
     replace mR := blk_alloc mR (.cells #[.int .i64 0, .int .i64 0] 35)
     have m7 : Blk ((w4.alloc (.cells #[.int .i64 (seenI rate Ai Ak.f1).f0, .int .i64 (seenI rate Ai Ak.f1).f1, .int .i64 Ak.f0.f0, .int .i64 Ak.f0.f1] 35)).alloc (.cells #[.int .i64 0, .int .i64 0] 35)) (w4.heap.size + 1) #[.int .i64 0, .int .i64 0] 35 := by have h_ := blk_new (w4.alloc (.cells #[.int .i64 (seenI rate Ai Ak.f1).f0, .int .i64 (seenI rate Ai Ak.f1).f1, .int .i64 Ak.f0.f0, .int .i64 Ak.f0.f1] 35)) (.cells #[.int .i64 0, .int .i64 0] 35); first | exact h_ | (simp only [World.size_alloc] at h_; exact h_)
     replace mB := below_alloc mB (.cells #[.int .i64 0, .int .i64 0] 35)
     refine value_ (w1 := ?_) (v := ?_) (by rfl) rfl ?_ ?_
     rotate_left 2
     ·go_simp
      constructor
      ·rfl
      ·rfl
     refine hK.out _ _ ⟨((blk_cell m5 0).trans rfl), ((blk_cell m5 1).trans rfl), ((blk_cell m5 2).trans rfl), ((blk_cell m6 0).trans rfl), ((blk_cell m6 1).trans rfl), ((blk_cell m6 2).trans rfl)⟩ (fun hHeld => ?_)
     clear hK K
     refine norm_ zq22 ?_
     refine one_ (i := 8) (N := some 41) #[true, true, true, true, true, true, true, true, true, false, false, false, false, true, false, false] rfl rfl zq1 (by decide) (fun K hK => ?_)
     have hcon_ := values35_at (some ⟨w4.heap.size, 0, none⟩) 2 2 (w4.heap.size + 1 + 1) ((w4.alloc (.cells #[.int .i64 (seenI rate Ai Ak.f1).f0, .int .i64 (seenI rate Ai Ak.f1).f1, .int .i64 Ak.f0.f0, .int .i64 Ak.f0.f1] 35)).alloc (.cells #[.int .i64 0, .int .i64 0] 35)) zq19
     have hn_f_V : b ≠ w4.heap.size + 1 + 1 := by have h_ := blk_lt mf; simp only [World.size_alloc] at h_; omega
     have hn_3_V : g3 ≠ w4.heap.size + 1 + 1 := by have h_ := blk_lt m3; simp only [World.size_alloc] at h_; omega
     have hn_5_V : g5 ≠ w4.heap.size + 1 + 1 := by have h_ := blk_lt m5; simp only [World.size_alloc] at h_; omega
     have hn_6_V : g6 ≠ w4.heap.size + 1 + 1 := by have h_ := blk_lt m6; simp only [World.size_alloc] at h_; omega
     have hn_R_V : w4.heap.size ≠ w4.heap.size + 1 + 1 := by have h_ := blk_lt mR; simp only [World.size_alloc] at h_; omega
     have hn_7_V : w4.heap.size + 1 ≠ w4.heap.size + 1 + 1 := by have h_ := blk_lt m7; simp only [World.size_alloc] at h_; omega
     have hGV : w.heap.size ≤ w4.heap.size + 1 + 1 := by have h_ := mB.size; simp only [World.size_alloc] at h_; omega
     replace mf := blk_alloc mf (.cells #[.slice (some ⟨w4.heap.size, 0, none⟩) 2 2] 65)
     replace m3 := blk_alloc m3 (.cells #[.slice (some ⟨w4.heap.size, 0, none⟩) 2 2] 65)
     replace m5 := blk_alloc m5 (.cells #[.slice (some ⟨w4.heap.size, 0, none⟩) 2 2] 65)
     replace m6 := blk_alloc m6 (.cells #[.slice (some ⟨w4.heap.size, 0, none⟩) 2 2] 65)
     replace mR := blk_alloc mR (.cells #[.slice (some ⟨w4.heap.size, 0, none⟩) 2 2] 65)
     replace m7 := blk_alloc m7 (.cells #[.slice (some ⟨w4.heap.size, 0, none⟩) 2 2] 65)
     have mV : Blk (((w4.alloc (.cells #[.int .i64 (seenI rate Ai Ak.f1).f0, .int .i64 (seenI rate Ai Ak.f1).f1, .int .i64 Ak.f0.f0, .int .i64 Ak.f0.f1] 35)).alloc (.cells #[.int .i64 0, .int .i64 0] 35)).alloc (.cells #[.slice (some ⟨w4.heap.size, 0, none⟩) 2 2] 65)) (w4.heap.size + 1 + 1) #[.slice (some ⟨w4.heap.size, 0, none⟩) 2 2] 65 := by have h_ := blk_new ((w4.alloc (.cells #[.int .i64 (seenI rate Ai Ak.f1).f0, .int .i64 (seenI rate Ai Ak.f1).f1, .int .i64 Ak.f0.f0, .int .i64 Ak.f0.f1] 35)).alloc (.cells #[.int .i64 0, .int .i64 0] 35)) (.cells #[.slice (some ⟨w4.heap.size, 0, none⟩) 2 2] 65); first | exact h_ | (simp only [World.size_alloc] at h_; exact h_)
     replace mB := below_alloc mB (.cells #[.slice (some ⟨w4.heap.size, 0, none⟩) 2 2] 65)
     refine goes_ Try.func84 zq1 rfl #[.slice (some ⟨w4.heap.size, 0, none⟩) 2 2] (by rfl) rfl rfl zq10 ?_
     with_reducible refine (hcon_).mono ?_
     rintro e W_ ⟨rfl, rfl⟩
     refine ⟨_, rfl, ?_⟩
     clear hcon_
     refine hK.out _ _ ⟨((blk_cell m5 0).trans rfl), ((blk_cell m5 1).trans rfl), ((blk_cell m5 2).trans rfl), ((blk_cell m6 0).trans rfl), ((blk_cell m6 1).trans rfl), ((blk_cell m6 2).trans rfl)⟩ (fun hHeld => ?_)
     clear hK K
     refine norm_ zq20 ?_
     refine one_ (i := 9) (N := some 42) #[true, true, true, true, true, true, true, true, true, true, false, false, false, true, false, false] rfl rfl zq1 (by decide) (fun K hK => ?_)
     have hcon_ := meet35_any 101 85 #[.pointer (some ⟨w4.heap.size + 1 + 1, 0, none⟩)] #[] (((w4.alloc (.cells #[.int .i64 (seenI rate Ai Ak.f1).f0, .int .i64 (seenI rate Ai Ak.f1).f1, .int .i64 Ak.f0.f0, .int .i64 Ak.f0.f1] 35)).alloc (.cells #[.int .i64 0, .int .i64 0] 35)).alloc (.cells #[.slice (some ⟨w4.heap.size, 0, none⟩) 2 2] 65)) [(seenI rate Ai Ak.f1), Ak.f0] id (enters_of Try.func101 zq1 rfl) (enters_of Try.func85 zq1 rfl) (fun W_ hb_ => values35_stops 5 (by omega) (w4.heap.size + 1 + 1) (((w4.alloc (.cells #[.int .i64 (seenI rate Ai Ak.f1).f0, .int .i64 (seenI rate Ai Ak.f1).f1, .int .i64 Ak.f0.f0, .int .i64 Ak.f0.f1] 35)).alloc (.cells #[.int .i64 0, .int .i64 0] 35)).alloc (.cells #[.slice (some ⟨w4.heap.size, 0, none⟩) 2 2] 65)) W_ (some ⟨w4.heap.size, 0, none⟩) 2 [(seenI rate Ai Ak.f1), Ak.f0] (by simp) (C_two (x := (seenI rate Ai Ak.f1)) (y := Ak.f0) mR) hb_ (Nat.lt_of_lt_of_le (blk_lt mV) hb_.size) ((blk_cell (blk_below mV hb_) 0).trans rfl)) itself_span
     refine goes_ Try.func83 zq1 rfl #[.func (.func 101) #[] #[.pointer (some ⟨w4.heap.size + 1 + 1, 0, none⟩)], .func (.func 85) #[] #[]] (by rfl) rfl rfl zq10 ?_
     with_reducible refine (hcon_).mono ?_
     rintro e w9 ⟨rfl, hb⟩
     refine ⟨_, rfl, ?_⟩
     clear hcon_
     replace mf := blk_below mf hb
     replace m3 := blk_below m3 hb
     replace m5 := blk_below m5 hb
     replace m6 := blk_below m6 hb
     replace mR := blk_below mR hb
     replace m7 := blk_below m7 hb
     replace mV := blk_below mV hb
     replace mB := below_step mB hb
     clear hb
     refine hK.out _ _ ⟨((blk_cell m5 0).trans rfl), ((blk_cell m5 1).trans rfl), ((blk_cell m5 2).trans rfl), ((blk_cell m6 0).trans rfl), ((blk_cell m6 1).trans rfl), ((blk_cell m6 2).trans rfl)⟩ (fun hHeld => ?_)
     clear hK K
     refine norm_ zq21 ?_
     refine zpz (i := 10) (N := some 32) zq1 ?_
     refine zpz (i := 11) (N := some 43) zq1 ?_
     refine zpz (i := 12) (N := some 44) zq1 ?_
     exact norm_ zq14 (hCont ((w4.heap.size, w4.heap.size + 1 + 1, w4.heap.size + 1)) _ ⟨mf, m3, m5, m6, mR, mV, m7, mB, hGR, hGV, hG7, hn_f_R, hn_3_R, hn_5_R, hn_6_R, hn_f_V, hn_3_V, hn_5_V, hn_6_V, hn_R_V, hn_f_7, hn_3_7, hn_5_7, hn_6_7, hn_R_7, hn_7_V.symm⟩)
   ·skip
    have hn_f_7 : b ≠ w4.heap.size := by have h_ := blk_lt mf; omega
    have hn_3_7 : g3 ≠ w4.heap.size := by have h_ := blk_lt m3; omega
    have hn_5_7 : g5 ≠ w4.heap.size := by have h_ := blk_lt m5; omega
    have hn_6_7 : g6 ≠ w4.heap.size := by have h_ := blk_lt m6; omega
    have hG7 : w.heap.size ≤ w4.heap.size := by have h_ := mB.size; omega
    replace mf := blk_alloc mf (.cells #[.int .i64 0, .int .i64 0] 35)
    replace m3 := blk_alloc m3 (.cells #[.int .i64 0, .int .i64 0] 35)
    replace m5 := blk_alloc m5 (.cells #[.int .i64 0, .int .i64 0] 35)
    replace m6 := blk_alloc m6 (.cells #[.int .i64 0, .int .i64 0] 35)
    have m7 : Blk (w4.alloc (.cells #[.int .i64 0, .int .i64 0] 35)) (w4.heap.size) #[.int .i64 0, .int .i64 0] 35 := by have h_ := blk_new w4 (.cells #[.int .i64 0, .int .i64 0] 35); first | exact h_ | (simp only [World.size_alloc] at h_; exact h_)
    replace mB := below_alloc mB (.cells #[.int .i64 0, .int .i64 0] 35)
    refine value_ (w1 := ?_) (v := ?_) (by rfl) rfl ?_ ?_
    rotate_left 2
    ·go_simp
     constructor
     ·rfl
     ·rfl
    refine hK.out _ _ ⟨((blk_cell m5 0).trans rfl), ((blk_cell m5 1).trans rfl), ((blk_cell m5 2).trans rfl), ((blk_cell m6 0).trans rfl), ((blk_cell m6 1).trans rfl), ((blk_cell m6 2).trans rfl)⟩ (fun hHeld => ?_)
    clear hK K
    refine norm_ zq22 ?_
    refine one_ (i := 7) (N := some 40) #[true, true, true, true, true, true, true, true, false, false, false, false, false, true, false, false] rfl rfl zq1 (by decide) (fun K hK => ?_)
    have hn_f_R : b ≠ w4.heap.size + 1 := by have h_ := blk_lt mf; simp only [World.size_alloc] at h_; omega
    have hn_3_R : g3 ≠ w4.heap.size + 1 := by have h_ := blk_lt m3; simp only [World.size_alloc] at h_; omega
    have hn_5_R : g5 ≠ w4.heap.size + 1 := by have h_ := blk_lt m5; simp only [World.size_alloc] at h_; omega
    have hn_6_R : g6 ≠ w4.heap.size + 1 := by have h_ := blk_lt m6; simp only [World.size_alloc] at h_; omega
    have hn_7_R : w4.heap.size ≠ w4.heap.size + 1 := by have h_ := blk_lt m7; simp only [World.size_alloc] at h_; omega
    have hGR : w.heap.size ≤ w4.heap.size + 1 := by have h_ := mB.size; simp only [World.size_alloc] at h_; omega
    replace mf := blk_alloc mf (.cells #[.int .i64 (seenI rate Ai Ak.f1).f0, .int .i64 (seenI rate Ai Ak.f1).f1, .int .i64 Ak.f0.f0, .int .i64 Ak.f0.f1] 35)
    replace m3 := blk_alloc m3 (.cells #[.int .i64 (seenI rate Ai Ak.f1).f0, .int .i64 (seenI rate Ai Ak.f1).f1, .int .i64 Ak.f0.f0, .int .i64 Ak.f0.f1] 35)
    replace m5 := blk_alloc m5 (.cells #[.int .i64 (seenI rate Ai Ak.f1).f0, .int .i64 (seenI rate Ai Ak.f1).f1, .int .i64 Ak.f0.f0, .int .i64 Ak.f0.f1] 35)
    replace m6 := blk_alloc m6 (.cells #[.int .i64 (seenI rate Ai Ak.f1).f0, .int .i64 (seenI rate Ai Ak.f1).f1, .int .i64 Ak.f0.f0, .int .i64 Ak.f0.f1] 35)
    replace m7 := blk_alloc m7 (.cells #[.int .i64 (seenI rate Ai Ak.f1).f0, .int .i64 (seenI rate Ai Ak.f1).f1, .int .i64 Ak.f0.f0, .int .i64 Ak.f0.f1] 35)
    have mR : Blk ((w4.alloc (.cells #[.int .i64 0, .int .i64 0] 35)).alloc (.cells #[.int .i64 (seenI rate Ai Ak.f1).f0, .int .i64 (seenI rate Ai Ak.f1).f1, .int .i64 Ak.f0.f0, .int .i64 Ak.f0.f1] 35)) (w4.heap.size + 1) #[.int .i64 (seenI rate Ai Ak.f1).f0, .int .i64 (seenI rate Ai Ak.f1).f1, .int .i64 Ak.f0.f0, .int .i64 Ak.f0.f1] 35 := by have h_ := blk_new (w4.alloc (.cells #[.int .i64 0, .int .i64 0] 35)) (.cells #[.int .i64 (seenI rate Ai Ak.f1).f0, .int .i64 (seenI rate Ai Ak.f1).f1, .int .i64 Ak.f0.f0, .int .i64 Ak.f0.f1] 35); first | exact h_ | (simp only [World.size_alloc] at h_; exact h_)
    replace mB := below_alloc mB (.cells #[.int .i64 (seenI rate Ai Ak.f1).f0, .int .i64 (seenI rate Ai Ak.f1).f1, .int .i64 Ak.f0.f0, .int .i64 Ak.f0.f1] 35)
    refine value_ (w1 := ?_) (v := ?_) (by rfl) rfl ?_ ?_
    rotate_left 2
    ·go_simp
     constructor
     ·rfl
     ·rfl
    refine hK.out _ _ ⟨((blk_cell m5 0).trans rfl), ((blk_cell m5 1).trans rfl), ((blk_cell m5 2).trans rfl), ((blk_cell m6 0).trans rfl), ((blk_cell m6 1).trans rfl), ((blk_cell m6 2).trans rfl)⟩ (fun hHeld => ?_)
    clear hK K
    refine norm_ zq18 ?_
    refine one_ (i := 8) (N := some 41) #[true, true, true, true, true, true, true, true, true, false, false, false, false, true, false, false] rfl rfl zq1 (by decide) (fun K hK => ?_)
    have hcon_ := values35_at (some ⟨w4.heap.size + 1, 0, none⟩) 2 2 (w4.heap.size + 1 + 1) ((w4.alloc (.cells #[.int .i64 0, .int .i64 0] 35)).alloc (.cells #[.int .i64 (seenI rate Ai Ak.f1).f0, .int .i64 (seenI rate Ai Ak.f1).f1, .int .i64 Ak.f0.f0, .int .i64 Ak.f0.f1] 35)) zq19
    have hn_f_V : b ≠ w4.heap.size + 1 + 1 := by have h_ := blk_lt mf; simp only [World.size_alloc] at h_; omega
    have hn_3_V : g3 ≠ w4.heap.size + 1 + 1 := by have h_ := blk_lt m3; simp only [World.size_alloc] at h_; omega
    have hn_5_V : g5 ≠ w4.heap.size + 1 + 1 := by have h_ := blk_lt m5; simp only [World.size_alloc] at h_; omega
    have hn_6_V : g6 ≠ w4.heap.size + 1 + 1 := by have h_ := blk_lt m6; simp only [World.size_alloc] at h_; omega
    have hn_7_V : w4.heap.size ≠ w4.heap.size + 1 + 1 := by have h_ := blk_lt m7; simp only [World.size_alloc] at h_; omega
    have hn_R_V : w4.heap.size + 1 ≠ w4.heap.size + 1 + 1 := by have h_ := blk_lt mR; simp only [World.size_alloc] at h_; omega
    have hGV : w.heap.size ≤ w4.heap.size + 1 + 1 := by have h_ := mB.size; simp only [World.size_alloc] at h_; omega
    replace mf := blk_alloc mf (.cells #[.slice (some ⟨w4.heap.size + 1, 0, none⟩) 2 2] 65)
    replace m3 := blk_alloc m3 (.cells #[.slice (some ⟨w4.heap.size + 1, 0, none⟩) 2 2] 65)
    replace m5 := blk_alloc m5 (.cells #[.slice (some ⟨w4.heap.size + 1, 0, none⟩) 2 2] 65)
    replace m6 := blk_alloc m6 (.cells #[.slice (some ⟨w4.heap.size + 1, 0, none⟩) 2 2] 65)
    replace m7 := blk_alloc m7 (.cells #[.slice (some ⟨w4.heap.size + 1, 0, none⟩) 2 2] 65)
    replace mR := blk_alloc mR (.cells #[.slice (some ⟨w4.heap.size + 1, 0, none⟩) 2 2] 65)
    have mV : Blk (((w4.alloc (.cells #[.int .i64 0, .int .i64 0] 35)).alloc (.cells #[.int .i64 (seenI rate Ai Ak.f1).f0, .int .i64 (seenI rate Ai Ak.f1).f1, .int .i64 Ak.f0.f0, .int .i64 Ak.f0.f1] 35)).alloc (.cells #[.slice (some ⟨w4.heap.size + 1, 0, none⟩) 2 2] 65)) (w4.heap.size + 1 + 1) #[.slice (some ⟨w4.heap.size + 1, 0, none⟩) 2 2] 65 := by have h_ := blk_new ((w4.alloc (.cells #[.int .i64 0, .int .i64 0] 35)).alloc (.cells #[.int .i64 (seenI rate Ai Ak.f1).f0, .int .i64 (seenI rate Ai Ak.f1).f1, .int .i64 Ak.f0.f0, .int .i64 Ak.f0.f1] 35)) (.cells #[.slice (some ⟨w4.heap.size + 1, 0, none⟩) 2 2] 65); first | exact h_ | (simp only [World.size_alloc] at h_; exact h_)
    replace mB := below_alloc mB (.cells #[.slice (some ⟨w4.heap.size + 1, 0, none⟩) 2 2] 65)
    refine goes_ Try.func84 zq1 rfl #[.slice (some ⟨w4.heap.size + 1, 0, none⟩) 2 2] (by rfl) rfl rfl zq10 ?_
    with_reducible refine (hcon_).mono ?_
    rintro e W_ ⟨rfl, rfl⟩
    refine ⟨_, rfl, ?_⟩
    clear hcon_
    refine hK.out _ _ ⟨((blk_cell m5 0).trans rfl), ((blk_cell m5 1).trans rfl), ((blk_cell m5 2).trans rfl), ((blk_cell m6 0).trans rfl), ((blk_cell m6 1).trans rfl), ((blk_cell m6 2).trans rfl)⟩ (fun hHeld => ?_)
    clear hK K
    refine norm_ zq20 ?_
    refine one_ (i := 9) (N := some 42) #[true, true, true, true, true, true, true, true, true, true, false, false, false, true, false, false] rfl rfl zq1 (by decide) (fun K hK => ?_)
    have hcon_ := meet35_any 101 85 #[.pointer (some ⟨w4.heap.size + 1 + 1, 0, none⟩)] #[] (((w4.alloc (.cells #[.int .i64 0, .int .i64 0] 35)).alloc (.cells #[.int .i64 (seenI rate Ai Ak.f1).f0, .int .i64 (seenI rate Ai Ak.f1).f1, .int .i64 Ak.f0.f0, .int .i64 Ak.f0.f1] 35)).alloc (.cells #[.slice (some ⟨w4.heap.size + 1, 0, none⟩) 2 2] 65)) [(seenI rate Ai Ak.f1), Ak.f0] id (enters_of Try.func101 zq1 rfl) (enters_of Try.func85 zq1 rfl) (fun W_ hb_ => values35_stops 5 (by omega) (w4.heap.size + 1 + 1) (((w4.alloc (.cells #[.int .i64 0, .int .i64 0] 35)).alloc (.cells #[.int .i64 (seenI rate Ai Ak.f1).f0, .int .i64 (seenI rate Ai Ak.f1).f1, .int .i64 Ak.f0.f0, .int .i64 Ak.f0.f1] 35)).alloc (.cells #[.slice (some ⟨w4.heap.size + 1, 0, none⟩) 2 2] 65)) W_ (some ⟨w4.heap.size + 1, 0, none⟩) 2 [(seenI rate Ai Ak.f1), Ak.f0] (by simp) (C_two (x := (seenI rate Ai Ak.f1)) (y := Ak.f0) mR) hb_ (Nat.lt_of_lt_of_le (blk_lt mV) hb_.size) ((blk_cell (blk_below mV hb_) 0).trans rfl)) itself_span
    refine goes_ Try.func83 zq1 rfl #[.func (.func 101) #[] #[.pointer (some ⟨w4.heap.size + 1 + 1, 0, none⟩)], .func (.func 85) #[] #[]] (by rfl) rfl rfl zq10 ?_
    with_reducible refine (hcon_).mono ?_
    rintro e w9 ⟨rfl, hb⟩
    refine ⟨_, rfl, ?_⟩
    clear hcon_
    replace mf := blk_below mf hb
    replace m3 := blk_below m3 hb
    replace m5 := blk_below m5 hb
    replace m6 := blk_below m6 hb
    replace m7 := blk_below m7 hb
    replace mR := blk_below mR hb
    replace mV := blk_below mV hb
    replace mB := below_step mB hb
    clear hb
    refine hK.out _ _ ⟨((blk_cell m5 0).trans rfl), ((blk_cell m5 1).trans rfl), ((blk_cell m5 2).trans rfl), ((blk_cell m6 0).trans rfl), ((blk_cell m6 1).trans rfl), ((blk_cell m6 2).trans rfl)⟩ (fun hHeld => ?_)
    clear hK K
    refine norm_ zq21 ?_
    refine zpz (i := 10) (N := some 32) zq1 ?_
    refine zpz (i := 11) (N := some 43) zq1 ?_
    refine zpz (i := 12) (N := some 44) zq1 ?_
    exact norm_ zq14 (hCont ((w4.heap.size + 1, w4.heap.size + 1 + 1, w4.heap.size)) _ ⟨mf, m3, m5, m6, mR, mV, m7, mB, hGR, hGV, hG7, hn_f_R, hn_3_R, hn_5_R, hn_6_R, hn_f_V, hn_3_V, hn_5_V, hn_6_V, hn_R_V, hn_f_7, hn_3_7, hn_5_7, hn_6_7, hn_7_R.symm, hn_7_V.symm⟩)
  ·skip
   have hn_f_7 : b ≠ Wx.heap.size := by have h_ := blk_lt mf; omega
   have hn_3_7 : g3 ≠ Wx.heap.size := by have h_ := blk_lt m3; omega
   have hn_5_7 : g5 ≠ Wx.heap.size := by have h_ := blk_lt m5; omega
   have hn_6_7 : g6 ≠ Wx.heap.size := by have h_ := blk_lt m6; omega
   have hG7 : w.heap.size ≤ Wx.heap.size := by have h_ := mB.size; omega
   replace mf := blk_alloc mf (.cells #[.int .i64 0, .int .i64 0] 35)
   replace m3 := blk_alloc m3 (.cells #[.int .i64 0, .int .i64 0] 35)
   replace m5 := blk_alloc m5 (.cells #[.int .i64 0, .int .i64 0] 35)
   replace m6 := blk_alloc m6 (.cells #[.int .i64 0, .int .i64 0] 35)
   have m7 : Blk (Wx.alloc (.cells #[.int .i64 0, .int .i64 0] 35)) (Wx.heap.size) #[.int .i64 0, .int .i64 0] 35 := by have h_ := blk_new Wx (.cells #[.int .i64 0, .int .i64 0] 35); first | exact h_ | (simp only [World.size_alloc] at h_; exact h_)
   replace mB := below_alloc mB (.cells #[.int .i64 0, .int .i64 0] 35)
   refine value_ (w1 := ?_) (v := ?_) (by rfl) rfl ?_ ?_
   rotate_left 2
   ·go_simp
    constructor
    ·rfl
    ·rfl
   refine hK.out _ _ ⟨((blk_cell m5 0).trans rfl), ((blk_cell m5 1).trans rfl), ((blk_cell m5 2).trans rfl), ((blk_cell m6 0).trans rfl), ((blk_cell m6 1).trans rfl), ((blk_cell m6 2).trans rfl)⟩ (fun hHeld => ?_)
   clear hK K
   refine norm_ zq22 ?_
   refine one_ (i := 4) (N := some 37) #[true, true, true, true, true, true, true, false, false, false, false, false, false, true, false, false] rfl rfl zq1 (by decide) (fun K hK => ?_)
   have hcon_ := seen_any b par rate ys Ai Ak.f1 (Wx.alloc (.cells #[.int .i64 0, .int .i64 0] 35)) (hF0.below mB)
   refine goes_ Try.func90 zq1 rfl #[.pointer (some ⟨b, 0, none⟩), .agg #[.int .i64 Ai.f0.f0, .int .i64 Ai.f0.f1, .int .i64 Ai.f1], .int .i64 Ak.f1] (by rfl) rfl rfl zq10 ?_
   with_reducible refine (hcon_).mono ?_
   rintro e w4 ⟨rfl, hb⟩
   refine ⟨_, rfl, ?_⟩
   clear hcon_
   replace mf := blk_below mf hb
   replace m3 := blk_below m3 hb
   replace m5 := blk_below m5 hb
   replace m6 := blk_below m6 hb
   replace m7 := blk_below m7 hb
   replace mB := below_step mB hb
   clear hb
   refine hK.out _ _ ⟨((blk_cell m5 0).trans rfl), ((blk_cell m5 1).trans rfl), ((blk_cell m5 2).trans rfl), ((blk_cell m6 0).trans rfl), ((blk_cell m6 1).trans rfl), ((blk_cell m6 2).trans rfl)⟩ (fun hHeld => ?_)
   clear hK K
   refine norm_ zq17 ?_
   refine one_ (i := 7) (N := some 40) #[true, true, true, true, true, true, true, true, false, false, false, false, false, true, false, false] rfl rfl zq1 (by decide) (fun K hK => ?_)
   have hn_f_R : b ≠ w4.heap.size := by have h_ := blk_lt mf; omega
   have hn_3_R : g3 ≠ w4.heap.size := by have h_ := blk_lt m3; omega
   have hn_5_R : g5 ≠ w4.heap.size := by have h_ := blk_lt m5; omega
   have hn_6_R : g6 ≠ w4.heap.size := by have h_ := blk_lt m6; omega
   have hn_7_R : Wx.heap.size ≠ w4.heap.size := by have h_ := blk_lt m7; omega
   have hGR : w.heap.size ≤ w4.heap.size := by have h_ := mB.size; omega
   replace mf := blk_alloc mf (.cells #[.int .i64 (seenI rate Ai Ak.f1).f0, .int .i64 (seenI rate Ai Ak.f1).f1, .int .i64 Ak.f0.f0, .int .i64 Ak.f0.f1] 35)
   replace m3 := blk_alloc m3 (.cells #[.int .i64 (seenI rate Ai Ak.f1).f0, .int .i64 (seenI rate Ai Ak.f1).f1, .int .i64 Ak.f0.f0, .int .i64 Ak.f0.f1] 35)
   replace m5 := blk_alloc m5 (.cells #[.int .i64 (seenI rate Ai Ak.f1).f0, .int .i64 (seenI rate Ai Ak.f1).f1, .int .i64 Ak.f0.f0, .int .i64 Ak.f0.f1] 35)
   replace m6 := blk_alloc m6 (.cells #[.int .i64 (seenI rate Ai Ak.f1).f0, .int .i64 (seenI rate Ai Ak.f1).f1, .int .i64 Ak.f0.f0, .int .i64 Ak.f0.f1] 35)
   replace m7 := blk_alloc m7 (.cells #[.int .i64 (seenI rate Ai Ak.f1).f0, .int .i64 (seenI rate Ai Ak.f1).f1, .int .i64 Ak.f0.f0, .int .i64 Ak.f0.f1] 35)
   have mR : Blk (w4.alloc (.cells #[.int .i64 (seenI rate Ai Ak.f1).f0, .int .i64 (seenI rate Ai Ak.f1).f1, .int .i64 Ak.f0.f0, .int .i64 Ak.f0.f1] 35)) (w4.heap.size) #[.int .i64 (seenI rate Ai Ak.f1).f0, .int .i64 (seenI rate Ai Ak.f1).f1, .int .i64 Ak.f0.f0, .int .i64 Ak.f0.f1] 35 := by have h_ := blk_new w4 (.cells #[.int .i64 (seenI rate Ai Ak.f1).f0, .int .i64 (seenI rate Ai Ak.f1).f1, .int .i64 Ak.f0.f0, .int .i64 Ak.f0.f1] 35); first | exact h_ | (simp only [World.size_alloc] at h_; exact h_)
   replace mB := below_alloc mB (.cells #[.int .i64 (seenI rate Ai Ak.f1).f0, .int .i64 (seenI rate Ai Ak.f1).f1, .int .i64 Ak.f0.f0, .int .i64 Ak.f0.f1] 35)
   refine value_ (w1 := ?_) (v := ?_) (by rfl) rfl ?_ ?_
   rotate_left 2
   ·go_simp
    constructor
    ·rfl
    ·rfl
   refine hK.out _ _ ⟨((blk_cell m5 0).trans rfl), ((blk_cell m5 1).trans rfl), ((blk_cell m5 2).trans rfl), ((blk_cell m6 0).trans rfl), ((blk_cell m6 1).trans rfl), ((blk_cell m6 2).trans rfl)⟩ (fun hHeld => ?_)
   clear hK K
   refine norm_ zq18 ?_
   refine one_ (i := 8) (N := some 41) #[true, true, true, true, true, true, true, true, true, false, false, false, false, true, false, false] rfl rfl zq1 (by decide) (fun K hK => ?_)
   have hcon_ := values35_at (some ⟨w4.heap.size, 0, none⟩) 2 2 (w4.heap.size + 1) (w4.alloc (.cells #[.int .i64 (seenI rate Ai Ak.f1).f0, .int .i64 (seenI rate Ai Ak.f1).f1, .int .i64 Ak.f0.f0, .int .i64 Ak.f0.f1] 35)) zq19
   have hn_f_V : b ≠ w4.heap.size + 1 := by have h_ := blk_lt mf; simp only [World.size_alloc] at h_; omega
   have hn_3_V : g3 ≠ w4.heap.size + 1 := by have h_ := blk_lt m3; simp only [World.size_alloc] at h_; omega
   have hn_5_V : g5 ≠ w4.heap.size + 1 := by have h_ := blk_lt m5; simp only [World.size_alloc] at h_; omega
   have hn_6_V : g6 ≠ w4.heap.size + 1 := by have h_ := blk_lt m6; simp only [World.size_alloc] at h_; omega
   have hn_7_V : Wx.heap.size ≠ w4.heap.size + 1 := by have h_ := blk_lt m7; simp only [World.size_alloc] at h_; omega
   have hn_R_V : w4.heap.size ≠ w4.heap.size + 1 := by have h_ := blk_lt mR; simp only [World.size_alloc] at h_; omega
   have hGV : w.heap.size ≤ w4.heap.size + 1 := by have h_ := mB.size; simp only [World.size_alloc] at h_; omega
   replace mf := blk_alloc mf (.cells #[.slice (some ⟨w4.heap.size, 0, none⟩) 2 2] 65)
   replace m3 := blk_alloc m3 (.cells #[.slice (some ⟨w4.heap.size, 0, none⟩) 2 2] 65)
   replace m5 := blk_alloc m5 (.cells #[.slice (some ⟨w4.heap.size, 0, none⟩) 2 2] 65)
   replace m6 := blk_alloc m6 (.cells #[.slice (some ⟨w4.heap.size, 0, none⟩) 2 2] 65)
   replace m7 := blk_alloc m7 (.cells #[.slice (some ⟨w4.heap.size, 0, none⟩) 2 2] 65)
   replace mR := blk_alloc mR (.cells #[.slice (some ⟨w4.heap.size, 0, none⟩) 2 2] 65)
   have mV : Blk ((w4.alloc (.cells #[.int .i64 (seenI rate Ai Ak.f1).f0, .int .i64 (seenI rate Ai Ak.f1).f1, .int .i64 Ak.f0.f0, .int .i64 Ak.f0.f1] 35)).alloc (.cells #[.slice (some ⟨w4.heap.size, 0, none⟩) 2 2] 65)) (w4.heap.size + 1) #[.slice (some ⟨w4.heap.size, 0, none⟩) 2 2] 65 := by have h_ := blk_new (w4.alloc (.cells #[.int .i64 (seenI rate Ai Ak.f1).f0, .int .i64 (seenI rate Ai Ak.f1).f1, .int .i64 Ak.f0.f0, .int .i64 Ak.f0.f1] 35)) (.cells #[.slice (some ⟨w4.heap.size, 0, none⟩) 2 2] 65); first | exact h_ | (simp only [World.size_alloc] at h_; exact h_)
   replace mB := below_alloc mB (.cells #[.slice (some ⟨w4.heap.size, 0, none⟩) 2 2] 65)
   refine goes_ Try.func84 zq1 rfl #[.slice (some ⟨w4.heap.size, 0, none⟩) 2 2] (by rfl) rfl rfl zq10 ?_
   with_reducible refine (hcon_).mono ?_
   rintro e W_ ⟨rfl, rfl⟩
   refine ⟨_, rfl, ?_⟩
   clear hcon_
   refine hK.out _ _ ⟨((blk_cell m5 0).trans rfl), ((blk_cell m5 1).trans rfl), ((blk_cell m5 2).trans rfl), ((blk_cell m6 0).trans rfl), ((blk_cell m6 1).trans rfl), ((blk_cell m6 2).trans rfl)⟩ (fun hHeld => ?_)
   clear hK K
   refine norm_ zq20 ?_
   refine one_ (i := 9) (N := some 42) #[true, true, true, true, true, true, true, true, true, true, false, false, false, true, false, false] rfl rfl zq1 (by decide) (fun K hK => ?_)
   have hcon_ := meet35_any 101 85 #[.pointer (some ⟨w4.heap.size + 1, 0, none⟩)] #[] ((w4.alloc (.cells #[.int .i64 (seenI rate Ai Ak.f1).f0, .int .i64 (seenI rate Ai Ak.f1).f1, .int .i64 Ak.f0.f0, .int .i64 Ak.f0.f1] 35)).alloc (.cells #[.slice (some ⟨w4.heap.size, 0, none⟩) 2 2] 65)) [(seenI rate Ai Ak.f1), Ak.f0] id (enters_of Try.func101 zq1 rfl) (enters_of Try.func85 zq1 rfl) (fun W_ hb_ => values35_stops 5 (by omega) (w4.heap.size + 1) ((w4.alloc (.cells #[.int .i64 (seenI rate Ai Ak.f1).f0, .int .i64 (seenI rate Ai Ak.f1).f1, .int .i64 Ak.f0.f0, .int .i64 Ak.f0.f1] 35)).alloc (.cells #[.slice (some ⟨w4.heap.size, 0, none⟩) 2 2] 65)) W_ (some ⟨w4.heap.size, 0, none⟩) 2 [(seenI rate Ai Ak.f1), Ak.f0] (by simp) (C_two (x := (seenI rate Ai Ak.f1)) (y := Ak.f0) mR) hb_ (Nat.lt_of_lt_of_le (blk_lt mV) hb_.size) ((blk_cell (blk_below mV hb_) 0).trans rfl)) itself_span
   refine goes_ Try.func83 zq1 rfl #[.func (.func 101) #[] #[.pointer (some ⟨w4.heap.size + 1, 0, none⟩)], .func (.func 85) #[] #[]] (by rfl) rfl rfl zq10 ?_
   with_reducible refine (hcon_).mono ?_
   rintro e w9 ⟨rfl, hb⟩
   refine ⟨_, rfl, ?_⟩
   clear hcon_
   replace mf := blk_below mf hb
   replace m3 := blk_below m3 hb
   replace m5 := blk_below m5 hb
   replace m6 := blk_below m6 hb
   replace m7 := blk_below m7 hb
   replace mR := blk_below mR hb
   replace mV := blk_below mV hb
   replace mB := below_step mB hb
   clear hb
   refine hK.out _ _ ⟨((blk_cell m5 0).trans rfl), ((blk_cell m5 1).trans rfl), ((blk_cell m5 2).trans rfl), ((blk_cell m6 0).trans rfl), ((blk_cell m6 1).trans rfl), ((blk_cell m6 2).trans rfl)⟩ (fun hHeld => ?_)
   clear hK K
   refine norm_ zq21 ?_
   refine zpz (i := 10) (N := some 32) zq1 ?_
   refine zpz (i := 11) (N := some 43) zq1 ?_
   refine zpz (i := 12) (N := some 44) zq1 ?_
   exact norm_ zq14 (hCont ((w4.heap.size, w4.heap.size + 1, Wx.heap.size)) _ ⟨mf, m3, m5, m6, mR, mV, m7, mB, hGR, hGV, hG7, hn_f_R, hn_3_R, hn_5_R, hn_6_R, hn_f_V, hn_3_V, hn_5_V, hn_6_V, hn_R_V, hn_f_7, hn_3_7, hn_5_7, hn_6_7, hn_7_R.symm, hn_7_V.symm⟩)
 rintro ⟨gR, gV, g7⟩ Wg ⟨mf, m3, m5, m6, mR, mV, m7, mB, hGR, hGV, hG7, hn_f_R, hn_3_R, hn_5_R, hn_6_R, hn_f_V, hn_3_V, hn_5_V, hn_6_V, hn_R_V, hn_f_7, hn_3_7, hn_5_7, hn_6_7, hn_R_7, hn_V_7⟩
 dsimp only at mf m3 m5 m6 mR mV m7 mB hGR hGV hG7 hn_f_R hn_3_R hn_5_R hn_6_R hn_f_V hn_3_V hn_5_V hn_6_V hn_R_V hn_f_7 hn_3_7 hn_5_7 hn_6_7 hn_R_7 hn_V_7
 have hHeld : (Wg.cell? ⟨g5, 0, none⟩ = some (.int .i64 Ai.f0.f0) ∧ Wg.cell? ⟨g5, 1, none⟩ = some (.int .i64 Ai.f0.f1) ∧ Wg.cell? ⟨g5, 2, none⟩ = some (.int .i64 Ai.f1) ∧ Wg.cell? ⟨g6, 0, none⟩ = some (.int .i64 Ak.f0.f0) ∧ Wg.cell? ⟨g6, 1, none⟩ = some (.int .i64 Ak.f0.f1) ∧ Wg.cell? ⟨g6, 2, none⟩ = some (.int .i64 Ak.f1)) := ⟨((blk_cell m5 0).trans rfl), ((blk_cell m5 1).trans rfl), ((blk_cell m5 2).trans rfl), ((blk_cell m6 0).trans rfl), ((blk_cell m6 1).trans rfl), ((blk_cell m6 2).trans rfl)⟩
 refine norm_ (a' := ?_) ?_ ?_
 rotate_left
 ·simp only [putAll, Act.put, List.setIfInBounds_toArray, List.set_cons_zero, List.set_cons_succ]
  rfl
 refine one_ (i := 14) (N := none) #[true, true, true, true, true, true, true, true, true, true, true, true, true, true, true, false] rfl rfl zq1 (by decide) (fun K hK => ?_)
 have hf0_ := blk_frozen m7 0
 have hc0_ := (blk_cell m7 0).trans rfl
 have hf1_ := blk_frozen m7 1
 have hc1_ := (blk_cell m7 1).trans rfl
 refine skip_ (w1 := ?_) (by rfl) rfl ?_ ?_
 rotate_left
 ·go_simp
  rfl
 clear hf0_ hc0_ hf1_ hc1_
 replace mf : Blk (Wg.setCell ⟨g7, 0, none⟩ (.int .i64 (meetF [seenI rate Ai Ak.f1, Ak.f0]).1)) b #[.int .i64 par, .int .i64 rate, .slice (some ad) ys.length c] 109 := blk_far (p := ⟨g7, 0, none⟩) mf hn_f_7 _
 replace m3 : Blk (Wg.setCell ⟨g7, 0, none⟩ (.int .i64 (meetF [seenI rate Ai Ak.f1, Ak.f0]).1)) g3 #[.int .i64 i, .int .i64 k] 81 := blk_far (p := ⟨g7, 0, none⟩) m3 hn_3_7 _
 replace m5 : Blk (Wg.setCell ⟨g7, 0, none⟩ (.int .i64 (meetF [seenI rate Ai Ak.f1, Ak.f0]).1)) g5 #[.int .i64 Ai.f0.f0, .int .i64 Ai.f0.f1, .int .i64 Ai.f1] 105 := blk_far (p := ⟨g7, 0, none⟩) m5 hn_5_7 _
 replace m6 : Blk (Wg.setCell ⟨g7, 0, none⟩ (.int .i64 (meetF [seenI rate Ai Ak.f1, Ak.f0]).1)) g6 #[.int .i64 Ak.f0.f0, .int .i64 Ak.f0.f1, .int .i64 Ak.f1] 105 := blk_far (p := ⟨g7, 0, none⟩) m6 hn_6_7 _
 replace m7 : Blk (Wg.setCell ⟨g7, 0, none⟩ (.int .i64 (meetF [seenI rate Ai Ak.f1, Ak.f0]).1)) g7 #[.int .i64 (meetF [seenI rate Ai Ak.f1, Ak.f0]).1, .int .i64 0] 35 := blk_put m7 0 _ rfl
 replace mB : Below w.heap.size w (Wg.setCell ⟨g7, 0, none⟩ (.int .i64 (meetF [seenI rate Ai Ak.f1, Ak.f0]).1)) := mB.setCell (p := ⟨g7, 0, none⟩) hG7 _
 replace mf : Blk ((Wg.setCell ⟨g7, 0, none⟩ (.int .i64 (meetF [seenI rate Ai Ak.f1, Ak.f0]).1)).setCell ⟨g7, 1, none⟩ (.int .i64 (meetF [seenI rate Ai Ak.f1, Ak.f0]).2)) b #[.int .i64 par, .int .i64 rate, .slice (some ad) ys.length c] 109 := blk_far (p := ⟨g7, 1, none⟩) mf hn_f_7 _
 replace m3 : Blk ((Wg.setCell ⟨g7, 0, none⟩ (.int .i64 (meetF [seenI rate Ai Ak.f1, Ak.f0]).1)).setCell ⟨g7, 1, none⟩ (.int .i64 (meetF [seenI rate Ai Ak.f1, Ak.f0]).2)) g3 #[.int .i64 i, .int .i64 k] 81 := blk_far (p := ⟨g7, 1, none⟩) m3 hn_3_7 _
 replace m5 : Blk ((Wg.setCell ⟨g7, 0, none⟩ (.int .i64 (meetF [seenI rate Ai Ak.f1, Ak.f0]).1)).setCell ⟨g7, 1, none⟩ (.int .i64 (meetF [seenI rate Ai Ak.f1, Ak.f0]).2)) g5 #[.int .i64 Ai.f0.f0, .int .i64 Ai.f0.f1, .int .i64 Ai.f1] 105 := blk_far (p := ⟨g7, 1, none⟩) m5 hn_5_7 _
 replace m6 : Blk ((Wg.setCell ⟨g7, 0, none⟩ (.int .i64 (meetF [seenI rate Ai Ak.f1, Ak.f0]).1)).setCell ⟨g7, 1, none⟩ (.int .i64 (meetF [seenI rate Ai Ak.f1, Ak.f0]).2)) g6 #[.int .i64 Ak.f0.f0, .int .i64 Ak.f0.f1, .int .i64 Ak.f1] 105 := blk_far (p := ⟨g7, 1, none⟩) m6 hn_6_7 _
 replace m7 : Blk ((Wg.setCell ⟨g7, 0, none⟩ (.int .i64 (meetF [seenI rate Ai Ak.f1, Ak.f0]).1)).setCell ⟨g7, 1, none⟩ (.int .i64 (meetF [seenI rate Ai Ak.f1, Ak.f0]).2)) g7 #[.int .i64 (meetF [seenI rate Ai Ak.f1, Ak.f0]).1, .int .i64 (meetF [seenI rate Ai Ak.f1, Ak.f0]).2] 35 := blk_put m7 1 _ rfl
 replace mB : Below w.heap.size w ((Wg.setCell ⟨g7, 0, none⟩ (.int .i64 (meetF [seenI rate Ai Ak.f1, Ak.f0]).1)).setCell ⟨g7, 1, none⟩ (.int .i64 (meetF [seenI rate Ai Ak.f1, Ak.f0]).2)) := mB.setCell (p := ⟨g7, 1, none⟩) hG7 _
 refine hK.out _ _ ⟨((blk_cell m5 0).trans rfl), ((blk_cell m5 1).trans rfl), ((blk_cell m5 2).trans rfl), ((blk_cell m6 0).trans rfl), ((blk_cell m6 1).trans rfl), ((blk_cell m6 2).trans rfl)⟩ (fun hHeld => ?_)
 clear hK K
 refine zpz (i := 15) (N := some 8) zq1 ?_
 refine done_ zq1 ?_
 go_wp2
 go_ret
 exact ⟨by rw [HC.out]; rfl, mB⟩
end Go.Proofs.Ytcjdhajdoikojaa.Clk
end
