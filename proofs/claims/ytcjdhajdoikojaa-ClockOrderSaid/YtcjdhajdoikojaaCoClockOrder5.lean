/- Part 5 of the proof of ClockOrder: what the functions compute. No condition. -/
import Derived.Test.YtcjdhajdoikojaaCoClockOrder3
import Derived.Test.YtcjdhajdoikojaaCoClockOrder4
set_option linter.unusedVariables false
set_option linter.unusedSimpArgs false
section
/- An anchor as it is seen at another reading; the offset by an exchange: what the program computes. -/
namespace Go.Proofs.Ytcjdhajdoikojaa.Clk
open Go.RowKit Go.Shelf Go.Proofs.YtcjdhajdoikojaaW.PrintWords Go.Proofs.YtcjdhajdoikojaaW.PrintLast Go.Proofs.YtcjdhajdoikojaaW.PrintMore Go.Proofs.Ytcjdhajdoikojaa.Pr Go.Proofs.YtcjdhajdoikojaaW.Round
set_option linter.unusedVariables false
set_option linter.unusedSimpArgs false
attribute [local go_sem] max2_int min2_int max_two min_two
/-- The growth for a difference of readings, as the program computes it. -/
def growI (rate d : Int) : Int := (clock_growth.f rate d).getD 0
theorem growI_some (rate d : Int) : clock_growth.f rate d = some (growI rate d) := rfl
/-- A span that is moved and grown. -/
def shiftI (a : S35) (by_ grow : Int) : S35 := ⟨wrap64 (wrap64 (a.f0 + by_) - grow), wrap64 (wrap64 (a.f1 + by_) + grow)⟩
theorem shift_any (a : S35) (by_ grow : Int) (w : World) :
  Calls Try.prog 93 #[.agg #[.int .i64 a.f0, .int .i64 a.f1], .int .i64 by_, .int .i64 grow] w fun e w' => e = .returned (.agg #[.int .i64 (shiftI a by_ grow).f0, .int .i64 (shiftI a by_ grow).f1]) ∧ Below w.heap.size w w' :=
 clock_shift.calls _ _ _ _ _ _ w rfl
theorem growth_any (rate d : Int) (w : World) : Calls Try.prog 94 #[.int .i64 rate, .int .i64 d] w fun e w' => e = .returned (.int .i64 (growI rate d)) ∧ Below w.heap.size w w' := clock_growth.calls _ _ _ w (growI_some _ _)
/-- A clock with its anchors, in memory. -/
def FaceAt (W : World) (b : Nat) (par rate : Int) (ys : List S105) : Prop := ∃ A c, Blk W b #[.int .i64 par, .int .i64 rate, .slice A ys.length c] 109 ∧ ys.length ≤ c ∧ Kd.C k105 W A ys.length ys
theorem FaceAt.below {W W1 : World} {b : Nat} {par rate : Int} {ys : List S105} (h : FaceAt W b par rate ys) (hb : Below W.heap.size W W1) : FaceAt W1 b par rate ys := by
 obtain ⟨A, c, h1, h2, h3⟩ := h
 exact ⟨A, c, h1.below hb, h2, Kd.C_below h3 hb⟩
theorem FaceAt.lt {W : World} {b : Nat} {par rate : Int} {ys : List S105} (h : FaceAt W b par rate ys) : b < W.heap.size := by
 obtain ⟨A, c, h1, _⟩ := h
 exact (Array.getElem?_eq_some_iff.1 h1).1

/-- An anchor as it is seen at another reading. -/
def seenI (rate : Int) (a : S105) (t : Int) : S35 := shiftI a.f0 0 (growI rate (wrap64 (t - a.f1)))

set_option maxRecDepth 100000 in
set_option maxHeartbeats 2000000 in
theorem seen_any (b : Nat) (par rate : Int) (ys : List S105) (a : S105) (t : Int) (w : World) (hF : FaceAt w b par rate ys) :
  Calls Try.prog 90 #[.pointer (some ⟨b, 0, none⟩), .agg #[.int .i64 a.f0.f0, .int .i64 a.f0.f1, .int .i64 a.f1], .int .i64 t] w fun e w' =>
   e = .returned (.agg #[.int .i64 (seenI rate a t).f0, .int .i64 (seenI rate a t).f1]) ∧ Below w.heap.size w w' := by
 have hu35 := Try.underlying35
 have hu105 := Try.underlying105
 have hu109 := Try.underlying109
 have hlt := hF.lt
 obtain ⟨A, c, mf, _, _⟩ := hF
 go_enter Try.func90, Try.ntmps90
 go_wp2
 have m1 : Blk ((w.alloc (.cells #[.int .i64 a.f0.f0, .int .i64 a.f0.f1, .int .i64 a.f1] 105)).alloc (.cells #[.int .i64 0, .int .i64 0] 35)) w.heap.size #[.int .i64 a.f0.f0, .int .i64 a.f0.f1, .int .i64 a.f1] 105 := blk_alloc (blk_new w _) _
 have m2 : Blk ((w.alloc (.cells #[.int .i64 a.f0.f0, .int .i64 a.f0.f1, .int .i64 a.f1] 105)).alloc (.cells #[.int .i64 0, .int .i64 0] 35)) (w.heap.size + 1) #[.int .i64 0, .int .i64 0] 35 := by
  have := blk_new (w.alloc (.cells #[.int .i64 a.f0.f0, .int .i64 a.f0.f1, .int .i64 a.f1] 105)) (.cells #[.int .i64 0, .int .i64 0] 35)
  rwa [World.size_alloc] at this
 have mB : Below w.heap.size w ((w.alloc (.cells #[.int .i64 a.f0.f0, .int .i64 a.f0.f1, .int .i64 a.f1] 105)).alloc (.cells #[.int .i64 0, .int .i64 0] 35)) := below_alloc (below_alloc (Below.refl _ _) _) _
 replace mf : Blk ((w.alloc (.cells #[.int .i64 a.f0.f0, .int .i64 a.f0.f1, .int .i64 a.f1] 105)).alloc (.cells #[.int .i64 0, .int .i64 0] 35)) b #[.int .i64 par, .int .i64 rate, .slice A ys.length c] 109 := blk_alloc (blk_alloc mf _) _
 replace m1 := blk_drew m1
 replace m2 := blk_drew m2
 replace mf := blk_drew mf
 replace mB := below_drew1 mB
 generalize hg4 : w.heap.size = gb4 at m1 m2 ⊢
 have hn1 : gb4 ≠ gb4 + 1 := by omega
 have hn2 : b ≠ gb4 + 1 := by omega
 have hG : w.heap.size ≤ gb4 + 1 := by omega
 generalize hg6 : gb4 + 1 = gb6 at m2 hn1 hn2 hG ⊢
 clear hg6
 refine start_ (n := 13) (S := fun w' => w'.cell? ⟨gb4, 0, none⟩ = some (.int .i64 a.f0.f0) ∧ w'.cell? ⟨gb4, 1, none⟩ = some (.int .i64 a.f0.f1) ∧ w'.cell? ⟨gb4, 2, none⟩ = some (.int .i64 a.f1) ∧ w'.cell? ⟨b, 1, none⟩ = some (.int .i64 rate)) (ds := []) #[false, false, false, false, false, false, false, false, false, false, false, false, false] zq1 rfl rfl ⟨(blk_cell m1 0).trans rfl, (blk_cell m1 1).trans rfl, (blk_cell m1 2).trans rfl, (blk_cell mf 1).trans rfl⟩ (fun hHeld => ?_)
 generalize hWd : World.drew _ = Wd at *
 clear hWd
 refine zpz (i := 0) (N := some 7) zq1 ?_
 refine zpz (i := 2) (N := some 9) zq1 ?_
 refine zpz (i := 3) (N := some 10) zq1 ?_
 refine zpz (i := 4) (N := some 11) zq1 ?_
 refine zpz (i := 6) (N := some 13) zq1 ?_
 refine zpz (i := 7) (N := some 14) zq1 ?_
 refine ztz (i := 1) (N := some 8) zq1 hHeld ?_
 refine ztz (i := 5) (N := some 12) zq1 hHeld ?_
 refine ztz (i := 8) (N := some 15) zq1 hHeld ?_
 refine zpz (i := 9) (N := some 16) zq1 ?_
 refine one_ (i := 10) (N := some 17) #[true, true, true, true, true, true, true, true, true, true, true, false, false] rfl rfl zq1 (by decide) (fun K hK => ?_)
 refine goes_ Try.func94 zq1 rfl #[.int .i64 rate, .int .i64 (wrap64 (t - a.f1))] (by rfl) rfl rfl zq10 ?_
 with_reducible refine (growth_any rate (wrap64 (t - a.f1)) _).mono ?_
 rintro e w5 ⟨rfl, hb⟩
 refine ⟨_, rfl, ?_⟩
 replace m1 := blk_below m1 hb
 replace m2 := blk_below m2 hb
 replace mf := blk_below mf hb
 replace mB := below_step mB hb
 clear hb
 refine hK.out _ _ ⟨(blk_cell m1 0).trans rfl, (blk_cell m1 1).trans rfl, (blk_cell m1 2).trans rfl, (blk_cell mf 1).trans rfl⟩ (fun hHeld => ?_)
 clear hK K
 refine norm_ (by show Act.put _ (some 17) _ = _; simp only [Act.put, List.setIfInBounds_toArray, List.set_cons_zero, List.set_cons_succ, i64_w, i32_w]; rfl) ?_
 refine one_ (i := 11) (N := some 18) #[true, true, true, true, true, true, true, true, true, true, true, true, false] rfl rfl zq1 (by decide) (fun K hK => ?_)
 refine goes_ Try.func93 zq1 rfl #[.agg #[.int .i64 a.f0.f0, .int .i64 a.f0.f1], .int .i64 0, .int .i64 (growI rate (wrap64 (t - a.f1)))] (by rfl) rfl rfl zq10 ?_
 with_reducible refine (shift_any a.f0 0 (growI rate (wrap64 (t - a.f1))) _).mono ?_
 rintro e w6 ⟨rfl, hb⟩
 refine ⟨_, rfl, ?_⟩
 replace m1 := blk_below m1 hb
 replace m2 := blk_below m2 hb
 replace mf := blk_below mf hb
 replace mB := below_step mB hb
 clear hb
 refine hK.out _ _ ⟨(blk_cell m1 0).trans rfl, (blk_cell m1 1).trans rfl, (blk_cell m1 2).trans rfl, (blk_cell mf 1).trans rfl⟩ (fun hHeld => ?_)
 clear hK K
 refine norm_ (by show Act.put _ (some 18) _ = _; simp only [Act.put, List.setIfInBounds_toArray, List.set_cons_zero, List.set_cons_succ, i64_w, i32_w]; rfl) ?_
 refine one_ (i := 12) (N := none) #[true, true, true, true, true, true, true, true, true, true, true, true, true] rfl rfl zq1 (by decide) (fun K hK => ?_)
 have hf0 := blk_frozen m2 0
 have hf1 := blk_frozen m2 1
 have hc0 := (blk_cell m2 0).trans rfl
 have hc1 := (blk_cell m2 1).trans rfl
 refine skip_ (w1 := ?_) (by rfl) rfl ?_ ?_
 rotate_left
 ·go_simp
  rfl
 refine hK.out _ _ ⟨((cell_far (p := ⟨gb6, _, none⟩) hn1 _).trans ((cell_far (p := ⟨gb6, _, none⟩) hn1 _).trans hHeld.1)), ((cell_far (p := ⟨gb6, _, none⟩) hn1 _).trans ((cell_far (p := ⟨gb6, _, none⟩) hn1 _).trans hHeld.2.1)), ((cell_far (p := ⟨gb6, _, none⟩) hn1 _).trans ((cell_far (p := ⟨gb6, _, none⟩) hn1 _).trans hHeld.2.2.1)), ((cell_far (p := ⟨gb6, _, none⟩) hn2 _).trans ((cell_far (p := ⟨gb6, _, none⟩) hn2 _).trans hHeld.2.2.2))⟩ (fun hHeld => ?_)
 clear hK K
 refine done_ zq1 ?_
 go_wp2
 exact bodyPost_ret (results_cell_row rfl _ _ gb6 35 #[.int .i64 (seenI rate a t).f0, .int .i64 (seenI rate a t).f1] (0, 0) _ rfl (blk_put (blk_put m2 0 _ rfl) 1 _ rfl) Try.underlying35 rfl zq1) rfl ⟨rfl, (mB.setCell hG _).setCell hG _⟩

/-- What an exchange says: what was heard, and what was answered. -/
def forthI (x : S46) (rate : Int) : S35 := shiftI ⟨wrap64 (-x.f4.f1), wrap64 (-x.f4.f0)⟩ (wrap64 (x.f1 - x.f0)) (growI rate (wrap64 (x.f3 - x.f0)))
def homeI (x : S46) : S35 := shiftI x.f5 (wrap64 (x.f2 - x.f3)) 0
def offsetI (x : S46) (rate : Int) : Int × Int := meetF [forthI x rate, homeI x]

theorem itself_span {B : World} (y : S35) (W : World) (_ : Below B.heap.size B W) : Calls Try.prog 85 (#[enc35 y] ++ #[]) W fun e W' => e = .returned (enc35 (id y)) ∧ Below W.heap.size W W' := by
 rw [Array.append_empty]
 exact clock_itself.calls _ _ _ _ W rfl
/-- A row of two spans. -/
theorem C_two {W : World} {b : Nat} {x y : S35} (h : Blk W b #[.int .i64 x.f0, .int .i64 x.f1, .int .i64 y.f0, .int .i64 y.f1] 35) : Kd.C k35 W (some ⟨b, 0, none⟩) 2 [x, y] := by
 refine ⟨rfl, by decide, fun _ => ⟨⟨b, 0, none⟩, rfl, fun j p hj => ?_⟩⟩
 match j, hj with
 | 0, hj =>
  obtain rfl : x = p := by simpa using hj
  refine ⟨_, rfl, k35_mk W x, fun i u hu => ?_⟩
  match i, hu with
  | 0, hu => exact ((blk_cell h 0).trans (by simpa using hu))
  | 1, hu => exact ((blk_cell h 1).trans (by simpa using hu))
 | 1, hj =>
  obtain rfl : y = p := by simpa using hj
  refine ⟨_, rfl, k35_mk W y, fun i u hu => ?_⟩
  match i, hu with
  | 0, hu => exact ((blk_cell h 2).trans (by simpa using hu))
  | 1, hu => exact ((blk_cell h 3).trans (by simpa using hu))

set_option maxRecDepth 100000 in
set_option maxHeartbeats 4000000 in
theorem offset_any (x : S46) (rate : Int) (w : World) :
  Calls Try.prog 66 #[.agg #[.int .i64 x.f0, .int .i64 x.f1, .int .i64 x.f2, .int .i64 x.f3, .int .i64 x.f4.f0, .int .i64 x.f4.f1, .int .i64 x.f5.f0, .int .i64 x.f5.f1], .int .i64 rate] w fun e w' =>
   e = .returned (.tuple #[.agg #[.int .i64 (offsetI x rate).1, .int .i64 (offsetI x rate).2], .bool (decide ((offsetI x rate).1 ≤ (offsetI x rate).2))]) ∧ Below w.heap.size w w' := by
 have hu35 := Try.underlying35
 have hu46 := Try.underlying46
 go_enter Try.func66, Try.ntmps66
 go_wp2
 have m2 : Blk ((w.alloc (.cells #[.int .i64 x.f0, .int .i64 x.f1, .int .i64 x.f2, .int .i64 x.f3, .int .i64 x.f4.f0, .int .i64 x.f4.f1, .int .i64 x.f5.f0, .int .i64 x.f5.f1] 46)).alloc (.cells #[.int .i64 0, .int .i64 0] 35)) (w.heap.size) #[.int .i64 x.f0, .int .i64 x.f1, .int .i64 x.f2, .int .i64 x.f3, .int .i64 x.f4.f0, .int .i64 x.f4.f1, .int .i64 x.f5.f0, .int .i64 x.f5.f1] 46 := (blk_alloc (by have h_ := blk_new w (.cells #[.int .i64 x.f0, .int .i64 x.f1, .int .i64 x.f2, .int .i64 x.f3, .int .i64 x.f4.f0, .int .i64 x.f4.f1, .int .i64 x.f5.f0, .int .i64 x.f5.f1] 46); first | exact h_ | (simp only [World.size_alloc] at h_; exact h_)) _)
 have m4 : Blk ((w.alloc (.cells #[.int .i64 x.f0, .int .i64 x.f1, .int .i64 x.f2, .int .i64 x.f3, .int .i64 x.f4.f0, .int .i64 x.f4.f1, .int .i64 x.f5.f0, .int .i64 x.f5.f1] 46)).alloc (.cells #[.int .i64 0, .int .i64 0] 35)) (w.heap.size + 1) #[.int .i64 0, .int .i64 0] 35 := (by have h_ := blk_new (w.alloc (.cells #[.int .i64 x.f0, .int .i64 x.f1, .int .i64 x.f2, .int .i64 x.f3, .int .i64 x.f4.f0, .int .i64 x.f4.f1, .int .i64 x.f5.f0, .int .i64 x.f5.f1] 46)) (.cells #[.int .i64 0, .int .i64 0] 35); first | exact h_ | (simp only [World.size_alloc] at h_; exact h_))
 have mB : Below w.heap.size w ((w.alloc (.cells #[.int .i64 x.f0, .int .i64 x.f1, .int .i64 x.f2, .int .i64 x.f3, .int .i64 x.f4.f0, .int .i64 x.f4.f1, .int .i64 x.f5.f0, .int .i64 x.f5.f1] 46)).alloc (.cells #[.int .i64 0, .int .i64 0] 35)) := (below_alloc (below_alloc (Below.refl w.heap.size w) _) _)
 have hsz_ : w.heap.size ≤ w.heap.size := Nat.le_refl _
 generalize hW_ : ((w.alloc (.cells #[.int .i64 x.f0, .int .i64 x.f1, .int .i64 x.f2, .int .i64 x.f3, .int .i64 x.f4.f0, .int .i64 x.f4.f1, .int .i64 x.f5.f0, .int .i64 x.f5.f1] 46)).alloc (.cells #[.int .i64 0, .int .i64 0] 35)) = W1 at m2 m4 mB ⊢
 clear hW_
 generalize hg2 : w.heap.size = g2 at m2 m4 ⊢
 have hG2 : w.heap.size ≤ g2 := by omega
 generalize hg4 : g2 + 1 = g4 at m4 ⊢
 have hn_2_4 : g2 ≠ g4 := by omega
 have hn_4_2 : g4 ≠ g2 := hn_2_4.symm
 have hG4 : w.heap.size ≤ g4 := by omega
 clear hsz_
 try clear hg4
 try clear hg2
 have hs_W1 : w.heap.size ≤ W1.heap.size := mB.size
 replace m2 := blk_drew m2
 replace m4 := blk_drew m4
 replace mB := below_drew1 mB
 refine start_ (n := 24) (S := fun w' => w'.cell? ⟨g2, 0, none⟩ = some (.int .i64 x.f0) ∧ w'.cell? ⟨g2, 1, none⟩ = some (.int .i64 x.f1) ∧ w'.cell? ⟨g2, 2, none⟩ = some (.int .i64 x.f2) ∧ w'.cell? ⟨g2, 3, none⟩ = some (.int .i64 x.f3) ∧ w'.cell? ⟨g2, 4, none⟩ = some (.int .i64 x.f4.f0) ∧ w'.cell? ⟨g2, 5, none⟩ = some (.int .i64 x.f4.f1) ∧ w'.cell? ⟨g2, 6, none⟩ = some (.int .i64 x.f5.f0) ∧ w'.cell? ⟨g2, 7, none⟩ = some (.int .i64 x.f5.f1)) (ds := []) #[false, false, false, false, false, false, false, false, false, false, false, false, false, false, false, false, false, false, false, false, false, false, false, false] zq1 rfl rfl ⟨((blk_cell m2 0).trans rfl), ((blk_cell m2 1).trans rfl), ((blk_cell m2 2).trans rfl), ((blk_cell m2 3).trans rfl), ((blk_cell m2 4).trans rfl), ((blk_cell m2 5).trans rfl), ((blk_cell m2 6).trans rfl), ((blk_cell m2 7).trans rfl)⟩ (fun hHeld => ?_)
 generalize hWd : World.drew _ = Wd at *
 clear hWd
 refine zpz (i := 0) (N := some 8) zq1 ?_
 refine zpz (i := 1) (N := some 9) zq1 ?_
 refine zpz (i := 4) (N := some 12) zq1 ?_
 refine zpz (i := 5) (N := some 13) zq1 ?_
 refine zpz (i := 9) (N := some 17) zq1 ?_
 refine zpz (i := 11) (N := some 19) zq1 ?_
 refine zpz (i := 14) (N := some 22) zq1 ?_
 refine zpz (i := 15) (N := some 23) zq1 ?_
 refine zpz (i := 17) (N := some 25) zq1 ?_
 refine ztz (i := 2) (N := some 10) zq1 hHeld ?_
 refine zpz (i := 3) (N := some 11) zq1 ?_
 refine ztz (i := 6) (N := some 14) zq1 hHeld ?_
 refine zpz (i := 7) (N := some 15) zq1 ?_
 refine zpz (i := 8) (N := some 16) zq1 ?_
 refine ztz (i := 10) (N := some 18) zq1 hHeld ?_
 refine ztz (i := 12) (N := some 20) zq1 hHeld ?_
 refine zpz (i := 13) (N := some 21) zq1 ?_
 refine ztz (i := 16) (N := some 24) zq1 hHeld ?_
 refine ztz (i := 18) (N := some 26) zq1 hHeld ?_
 refine zpz (i := 19) (N := some 27) zq1 ?_
 refine join_ (σ := Nat) 1 #[true, true, true, true, true, true, true, true, true, true, true, true, true, true, true, true, true, true, true, true, true, true, true, false] (fun s => [(28, .int .i64 (growI rate (wrap64 (x.f3 - x.f0)))), (29, .agg #[.int .i64 (forthI x rate).f0, .int .i64 (forthI x rate).f1]), (6, .pointer (some ⟨s, 0, none⟩))]) (fun s w' => Blk w' g2 #[.int .i64 x.f0, .int .i64 x.f1, .int .i64 x.f2, .int .i64 x.f3, .int .i64 x.f4.f0, .int .i64 x.f4.f1, .int .i64 x.f5.f0, .int .i64 x.f5.f1] 46 ∧ Blk w' g4 #[.int .i64 0, .int .i64 0] 35 ∧ Blk w' s #[.int .i64 0, .int .i64 0] 35 ∧ Below w.heap.size w w' ∧ w.heap.size ≤ s ∧ g2 ≠ s ∧ g4 ≠ s) ?_ ?_
 rotate_left
 ·intro hCont
  refine two_ (i := 20) (j := 22) (Ni := some 28) (Nj := some 6) #[true, true, true, true, true, true, true, true, true, true, true, true, true, true, true, true, true, true, true, true, true, false, false, false] #[true, true, true, true, true, true, true, true, true, true, true, true, true, true, true, true, true, true, true, true, false, false, true, false] rfl rfl rfl rfl zq1 (by decide) (by decide) (fun K hK => ?_) (fun K hK => ?_)
  ·skip
   refine goes_ Try.func94 zq1 rfl #[.int .i64 rate, .int .i64 (wrap64 (x.f3 - x.f0))] (by rfl) rfl rfl zq10 ?_
   with_reducible refine (growth_any rate (wrap64 (x.f3 - x.f0)) _).mono ?_
   rintro e w20 ⟨rfl, hb⟩
   refine ⟨_, rfl, ?_⟩
   replace m2 := blk_below m2 hb
   replace m4 := blk_below m4 hb
   replace mB := below_step mB hb
   clear hb
   refine hK.out _ _ ⟨((blk_cell m2 0).trans rfl), ((blk_cell m2 1).trans rfl), ((blk_cell m2 2).trans rfl), ((blk_cell m2 3).trans rfl), ((blk_cell m2 4).trans rfl), ((blk_cell m2 5).trans rfl), ((blk_cell m2 6).trans rfl), ((blk_cell m2 7).trans rfl)⟩ (fun hHeld => ?_)
   clear hK K
   refine norm_ zq11 ?_
   refine two_ (i := 21) (j := 22) (Ni := some 29) (Nj := some 6) #[true, true, true, true, true, true, true, true, true, true, true, true, true, true, true, true, true, true, true, true, true, true, false, false] #[true, true, true, true, true, true, true, true, true, true, true, true, true, true, true, true, true, true, true, true, true, false, true, false] rfl rfl rfl rfl zq1 (by decide) (by decide) (fun K hK => ?_) (fun K hK => ?_)
   ·skip
    refine goes_ Try.func93 zq1 rfl #[.agg #[.int .i64 (wrap64 (-x.f4.f1)), .int .i64 (wrap64 (-x.f4.f0))], .int .i64 (wrap64 (x.f1 - x.f0)), .int .i64 (growI rate (wrap64 (x.f3 - x.f0)))] (by rfl) rfl rfl zq10 ?_
    with_reducible refine (shift_any ⟨wrap64 (-x.f4.f1), wrap64 (-x.f4.f0)⟩ (wrap64 (x.f1 - x.f0)) (growI rate (wrap64 (x.f3 - x.f0))) _).mono ?_
    rintro e w21 ⟨rfl, hb⟩
    refine ⟨_, rfl, ?_⟩
    replace m2 := blk_below m2 hb
    replace m4 := blk_below m4 hb
    replace mB := below_step mB hb
    clear hb
    refine hK.out _ _ ⟨((blk_cell m2 0).trans rfl), ((blk_cell m2 1).trans rfl), ((blk_cell m2 2).trans rfl), ((blk_cell m2 3).trans rfl), ((blk_cell m2 4).trans rfl), ((blk_cell m2 5).trans rfl), ((blk_cell m2 6).trans rfl), ((blk_cell m2 7).trans rfl)⟩ (fun hHeld => ?_)
    clear hK K
    refine norm_ zq12 ?_
    refine one_ (i := 22) (N := some 6) #[true, true, true, true, true, true, true, true, true, true, true, true, true, true, true, true, true, true, true, true, true, true, true, false] rfl rfl zq1 (by decide) (fun K hK => ?_)
    have hn_2_6 : g2 ≠ w21.heap.size := by have h_ := blk_lt m2; omega
    have hn_4_6 : g4 ≠ w21.heap.size := by have h_ := blk_lt m4; omega
    have hG6 : w.heap.size ≤ w21.heap.size := mB.size
    replace m2 := blk_alloc m2 (.cells #[.int .i64 0, .int .i64 0] 35)
    replace m4 := blk_alloc m4 (.cells #[.int .i64 0, .int .i64 0] 35)
    have m6 := blk_new w21 (.cells #[.int .i64 0, .int .i64 0] 35)
    replace mB := below_alloc mB (.cells #[.int .i64 0, .int .i64 0] 35)
    refine value_ (w1 := ?_) (v := ?_) (by rfl) rfl ?_ ?_
    rotate_left 2
    ·go_simp
     constructor
     ·rfl
     ·rfl
    refine hK.out _ _ ⟨((blk_cell m2 0).trans rfl), ((blk_cell m2 1).trans rfl), ((blk_cell m2 2).trans rfl), ((blk_cell m2 3).trans rfl), ((blk_cell m2 4).trans rfl), ((blk_cell m2 5).trans rfl), ((blk_cell m2 6).trans rfl), ((blk_cell m2 7).trans rfl)⟩ (fun hHeld => ?_)
    clear hK K
    refine norm_ zq13 ?_
    exact norm_ zq14 (hCont w21.heap.size _ ⟨m2, m4, m6, mB, hG6, hn_2_6, hn_4_6⟩)
   ·skip
    have hn_2_6 : g2 ≠ w20.heap.size := by have h_ := blk_lt m2; omega
    have hn_4_6 : g4 ≠ w20.heap.size := by have h_ := blk_lt m4; omega
    have hG6 : w.heap.size ≤ w20.heap.size := mB.size
    replace m2 := blk_alloc m2 (.cells #[.int .i64 0, .int .i64 0] 35)
    replace m4 := blk_alloc m4 (.cells #[.int .i64 0, .int .i64 0] 35)
    have m6 := blk_new w20 (.cells #[.int .i64 0, .int .i64 0] 35)
    replace mB := below_alloc mB (.cells #[.int .i64 0, .int .i64 0] 35)
    refine value_ (w1 := ?_) (v := ?_) (by rfl) rfl ?_ ?_
    rotate_left 2
    ·go_simp
     constructor
     ·rfl
     ·rfl
    refine hK.out _ _ ⟨((blk_cell m2 0).trans rfl), ((blk_cell m2 1).trans rfl), ((blk_cell m2 2).trans rfl), ((blk_cell m2 3).trans rfl), ((blk_cell m2 4).trans rfl), ((blk_cell m2 5).trans rfl), ((blk_cell m2 6).trans rfl), ((blk_cell m2 7).trans rfl)⟩ (fun hHeld => ?_)
    clear hK K
    refine norm_ zq13 ?_
    refine one_ (i := 21) (N := some 29) #[true, true, true, true, true, true, true, true, true, true, true, true, true, true, true, true, true, true, true, true, true, true, true, false] rfl rfl zq1 (by decide) (fun K hK => ?_)
    refine goes_ Try.func93 zq1 rfl #[.agg #[.int .i64 (wrap64 (-x.f4.f1)), .int .i64 (wrap64 (-x.f4.f0))], .int .i64 (wrap64 (x.f1 - x.f0)), .int .i64 (growI rate (wrap64 (x.f3 - x.f0)))] (by rfl) rfl rfl zq10 ?_
    with_reducible refine (shift_any ⟨wrap64 (-x.f4.f1), wrap64 (-x.f4.f0)⟩ (wrap64 (x.f1 - x.f0)) (growI rate (wrap64 (x.f3 - x.f0))) _).mono ?_
    rintro e w21 ⟨rfl, hb⟩
    refine ⟨_, rfl, ?_⟩
    replace m2 := blk_below m2 hb
    replace m4 := blk_below m4 hb
    replace m6 := blk_below m6 hb
    replace mB := below_step mB hb
    clear hb
    refine hK.out _ _ ⟨((blk_cell m2 0).trans rfl), ((blk_cell m2 1).trans rfl), ((blk_cell m2 2).trans rfl), ((blk_cell m2 3).trans rfl), ((blk_cell m2 4).trans rfl), ((blk_cell m2 5).trans rfl), ((blk_cell m2 6).trans rfl), ((blk_cell m2 7).trans rfl)⟩ (fun hHeld => ?_)
    clear hK K
    refine norm_ zq12 ?_
    exact norm_ zq14 (hCont w20.heap.size _ ⟨m2, m4, m6, mB, hG6, hn_2_6, hn_4_6⟩)
  ·skip
   have hn_2_6 : g2 ≠ Wd.heap.size := by have h_ := blk_lt m2; omega
   have hn_4_6 : g4 ≠ Wd.heap.size := by have h_ := blk_lt m4; omega
   have hG6 : w.heap.size ≤ Wd.heap.size := mB.size
   replace m2 := blk_alloc m2 (.cells #[.int .i64 0, .int .i64 0] 35)
   replace m4 := blk_alloc m4 (.cells #[.int .i64 0, .int .i64 0] 35)
   have m6 := blk_new Wd (.cells #[.int .i64 0, .int .i64 0] 35)
   replace mB := below_alloc mB (.cells #[.int .i64 0, .int .i64 0] 35)
   refine value_ (w1 := ?_) (v := ?_) (by rfl) rfl ?_ ?_
   rotate_left 2
   ·go_simp
    constructor
    ·rfl
    ·rfl
   refine hK.out _ _ ⟨((blk_cell m2 0).trans rfl), ((blk_cell m2 1).trans rfl), ((blk_cell m2 2).trans rfl), ((blk_cell m2 3).trans rfl), ((blk_cell m2 4).trans rfl), ((blk_cell m2 5).trans rfl), ((blk_cell m2 6).trans rfl), ((blk_cell m2 7).trans rfl)⟩ (fun hHeld => ?_)
   clear hK K
   refine norm_ zq13 ?_
   refine one_ (i := 20) (N := some 28) #[true, true, true, true, true, true, true, true, true, true, true, true, true, true, true, true, true, true, true, true, true, false, true, false] rfl rfl zq1 (by decide) (fun K hK => ?_)
   refine goes_ Try.func94 zq1 rfl #[.int .i64 rate, .int .i64 (wrap64 (x.f3 - x.f0))] (by rfl) rfl rfl zq10 ?_
   with_reducible refine (growth_any rate (wrap64 (x.f3 - x.f0)) _).mono ?_
   rintro e w20 ⟨rfl, hb⟩
   refine ⟨_, rfl, ?_⟩
   replace m2 := blk_below m2 hb
   replace m4 := blk_below m4 hb
   replace m6 := blk_below m6 hb
   replace mB := below_step mB hb
   clear hb
   refine hK.out _ _ ⟨((blk_cell m2 0).trans rfl), ((blk_cell m2 1).trans rfl), ((blk_cell m2 2).trans rfl), ((blk_cell m2 3).trans rfl), ((blk_cell m2 4).trans rfl), ((blk_cell m2 5).trans rfl), ((blk_cell m2 6).trans rfl), ((blk_cell m2 7).trans rfl)⟩ (fun hHeld => ?_)
   clear hK K
   refine norm_ zq11 ?_
   refine one_ (i := 21) (N := some 29) #[true, true, true, true, true, true, true, true, true, true, true, true, true, true, true, true, true, true, true, true, true, true, true, false] rfl rfl zq1 (by decide) (fun K hK => ?_)
   refine goes_ Try.func93 zq1 rfl #[.agg #[.int .i64 (wrap64 (-x.f4.f1)), .int .i64 (wrap64 (-x.f4.f0))], .int .i64 (wrap64 (x.f1 - x.f0)), .int .i64 (growI rate (wrap64 (x.f3 - x.f0)))] (by rfl) rfl rfl zq10 ?_
   with_reducible refine (shift_any ⟨wrap64 (-x.f4.f1), wrap64 (-x.f4.f0)⟩ (wrap64 (x.f1 - x.f0)) (growI rate (wrap64 (x.f3 - x.f0))) _).mono ?_
   rintro e w21 ⟨rfl, hb⟩
   refine ⟨_, rfl, ?_⟩
   replace m2 := blk_below m2 hb
   replace m4 := blk_below m4 hb
   replace m6 := blk_below m6 hb
   replace mB := below_step mB hb
   clear hb
   refine hK.out _ _ ⟨((blk_cell m2 0).trans rfl), ((blk_cell m2 1).trans rfl), ((blk_cell m2 2).trans rfl), ((blk_cell m2 3).trans rfl), ((blk_cell m2 4).trans rfl), ((blk_cell m2 5).trans rfl), ((blk_cell m2 6).trans rfl), ((blk_cell m2 7).trans rfl)⟩ (fun hHeld => ?_)
   clear hK K
   refine norm_ zq12 ?_
   exact norm_ zq14 (hCont Wd.heap.size _ ⟨m2, m4, m6, mB, hG6, hn_2_6, hn_4_6⟩)
 rintro g6 W6 ⟨m2, m4, m6, mB, hG6, hn_2_6, hn_4_6⟩
 have hHeld : (W6.cell? ⟨g2, 0, none⟩ = some (.int .i64 x.f0) ∧ W6.cell? ⟨g2, 1, none⟩ = some (.int .i64 x.f1) ∧ W6.cell? ⟨g2, 2, none⟩ = some (.int .i64 x.f2) ∧ W6.cell? ⟨g2, 3, none⟩ = some (.int .i64 x.f3) ∧ W6.cell? ⟨g2, 4, none⟩ = some (.int .i64 x.f4.f0) ∧ W6.cell? ⟨g2, 5, none⟩ = some (.int .i64 x.f4.f1) ∧ W6.cell? ⟨g2, 6, none⟩ = some (.int .i64 x.f5.f0) ∧ W6.cell? ⟨g2, 7, none⟩ = some (.int .i64 x.f5.f1)) := ⟨((blk_cell m2 0).trans rfl), ((blk_cell m2 1).trans rfl), ((blk_cell m2 2).trans rfl), ((blk_cell m2 3).trans rfl), ((blk_cell m2 4).trans rfl), ((blk_cell m2 5).trans rfl), ((blk_cell m2 6).trans rfl), ((blk_cell m2 7).trans rfl)⟩
 refine norm_ (a' := ?_) ?_ ?_
 rotate_left
 ·simp only [putAll, Act.put, List.setIfInBounds_toArray, List.set_cons_zero, List.set_cons_succ]
  rfl
 refine one_ (i := 23) (N := none) #[true, true, true, true, true, true, true, true, true, true, true, true, true, true, true, true, true, true, true, true, true, true, true, true] rfl rfl zq1 (by decide) (fun K hK => ?_)
 have hf0 := blk_frozen m6 0
 have hf1 := blk_frozen m6 1
 have hc0 := (blk_cell m6 0).trans rfl
 have hc1 := (blk_cell m6 1).trans rfl
 refine skip_ (w1 := ?_) (by rfl) rfl ?_ ?_
 rotate_left
 ·go_simp
  rfl
 refine hK.out _ _ ⟨((cell_far (p := ⟨g6, _, none⟩) hn_2_6 _).trans ((cell_far (p := ⟨g6, _, none⟩) hn_2_6 _).trans hHeld.1)), ((cell_far (p := ⟨g6, _, none⟩) hn_2_6 _).trans ((cell_far (p := ⟨g6, _, none⟩) hn_2_6 _).trans hHeld.2.1)), ((cell_far (p := ⟨g6, _, none⟩) hn_2_6 _).trans ((cell_far (p := ⟨g6, _, none⟩) hn_2_6 _).trans hHeld.2.2.1)), ((cell_far (p := ⟨g6, _, none⟩) hn_2_6 _).trans ((cell_far (p := ⟨g6, _, none⟩) hn_2_6 _).trans hHeld.2.2.2.1)), ((cell_far (p := ⟨g6, _, none⟩) hn_2_6 _).trans ((cell_far (p := ⟨g6, _, none⟩) hn_2_6 _).trans hHeld.2.2.2.2.1)), ((cell_far (p := ⟨g6, _, none⟩) hn_2_6 _).trans ((cell_far (p := ⟨g6, _, none⟩) hn_2_6 _).trans hHeld.2.2.2.2.2.1)), ((cell_far (p := ⟨g6, _, none⟩) hn_2_6 _).trans ((cell_far (p := ⟨g6, _, none⟩) hn_2_6 _).trans hHeld.2.2.2.2.2.2.1)), ((cell_far (p := ⟨g6, _, none⟩) hn_2_6 _).trans ((cell_far (p := ⟨g6, _, none⟩) hn_2_6 _).trans hHeld.2.2.2.2.2.2.2))⟩ (fun hHeld => ?_)
 clear hK K
 refine done_ zq1 ?_
 have hn_6_2 := hn_2_6.symm
 have hn_6_4 := hn_4_6.symm
 have n2 : Blk ((W6.setCell ⟨g6, 0, none⟩ (.int .i64 (forthI x rate).f0)).setCell ⟨g6, 1, none⟩ (.int .i64 (forthI x rate).f1)) g2 #[.int .i64 x.f0, .int .i64 x.f1, .int .i64 x.f2, .int .i64 x.f3, .int .i64 x.f4.f0, .int .i64 x.f4.f1, .int .i64 x.f5.f0, .int .i64 x.f5.f1] 46 := (blk_far (p := ⟨g6, 1, none⟩) (blk_far (p := ⟨g6, 0, none⟩) m2 hn_2_6 _) hn_2_6 _)
 have n4 : Blk ((W6.setCell ⟨g6, 0, none⟩ (.int .i64 (forthI x rate).f0)).setCell ⟨g6, 1, none⟩ (.int .i64 (forthI x rate).f1)) g4 #[.int .i64 0, .int .i64 0] 35 := (blk_far (p := ⟨g6, 1, none⟩) (blk_far (p := ⟨g6, 0, none⟩) m4 hn_4_6 _) hn_4_6 _)
 have n6 : Blk ((W6.setCell ⟨g6, 0, none⟩ (.int .i64 (forthI x rate).f0)).setCell ⟨g6, 1, none⟩ (.int .i64 (forthI x rate).f1)) g6 #[.int .i64 (forthI x rate).f0, .int .i64 (forthI x rate).f1] 35 := (blk_put (blk_put m6 0 _ rfl) 1 _ rfl)
 have nB : Below w.heap.size w ((W6.setCell ⟨g6, 0, none⟩ (.int .i64 (forthI x rate).f0)).setCell ⟨g6, 1, none⟩ (.int .i64 (forthI x rate).f1)) := ((mB.setCell hG6 _).setCell hG6 _)
 clear m2 m4 m6 mB
 try clear hHeld
 generalize hW_ : ((W6.setCell ⟨g6, 0, none⟩ (.int .i64 (forthI x rate).f0)).setCell ⟨g6, 1, none⟩ (.int .i64 (forthI x rate).f1)) = W7 at n2 n4 n6 nB ⊢
 clear hW_
 have m2 := n2; clear n2
 have m4 := n4; clear n4
 have m6 := n6; clear n6
 have mB := nB; clear nB
 have hs_W7 : w.heap.size ≤ W7.heap.size := mB.size
 obtain ⟨c2_0, c2_1, c2_2, c2_3, c2_4, c2_5, c2_6, c2_7⟩ := zcs8 m2
 go_wp2_with fail
 clear c2_0 c2_1 c2_2 c2_3 c2_4 c2_5 c2_6 c2_7
 have hcon := shift_any x.f5 (wrap64 (x.f2 - x.f3)) 0 W7
 (with_reducible refine hcon.mono ?_)
 clear hcon
 rintro e W8 ⟨rfl, hb⟩
 replace m2 := blk_below m2 hb
 replace m4 := blk_below m4 hb
 replace m6 := blk_below m6 hb
 replace mB := below_step mB hb
 clear hb
 have hs_W8 : w.heap.size ≤ W8.heap.size := mB.size
 have c6_0 : ∀ o_, (W8.alloc o_).cell? ⟨g6, 0, none⟩ = some (.int .i64 (forthI x rate).f0) := fun o_ => (blk_cell (blk_alloc m6 o_) 0).trans rfl
 have c6_1 : ∀ o_, (W8.alloc o_).cell? ⟨g6, 1, none⟩ = some (.int .i64 (forthI x rate).f1) := fun o_ => (blk_cell (blk_alloc m6 o_) 1).trans rfl
 go_wp2_with fail
 have hl_2 := blk_lt m2
 have hl_4 := blk_lt m4
 have hl_6 := blk_lt m6
 have m7 : Blk ((W8.alloc (.cells #[.int .i64 (shiftI x.f5 (wrap64 (x.f2 - x.f3)) 0).f0, .int .i64 (shiftI x.f5 (wrap64 (x.f2 - x.f3)) 0).f1] 35)).alloc (.cells #[.int .i64 (forthI x rate).f0, .int .i64 (forthI x rate).f1, .int .i64 (shiftI x.f5 (wrap64 (x.f2 - x.f3)) 0).f0, .int .i64 (shiftI x.f5 (wrap64 (x.f2 - x.f3)) 0).f1] 35)) (W8.heap.size) #[.int .i64 (shiftI x.f5 (wrap64 (x.f2 - x.f3)) 0).f0, .int .i64 (shiftI x.f5 (wrap64 (x.f2 - x.f3)) 0).f1] 35 := (blk_alloc (by have h_ := blk_new W8 (.cells #[.int .i64 (shiftI x.f5 (wrap64 (x.f2 - x.f3)) 0).f0, .int .i64 (shiftI x.f5 (wrap64 (x.f2 - x.f3)) 0).f1] 35); first | exact h_ | (simp only [World.size_alloc] at h_; exact h_)) _)
 have mR : Blk ((W8.alloc (.cells #[.int .i64 (shiftI x.f5 (wrap64 (x.f2 - x.f3)) 0).f0, .int .i64 (shiftI x.f5 (wrap64 (x.f2 - x.f3)) 0).f1] 35)).alloc (.cells #[.int .i64 (forthI x rate).f0, .int .i64 (forthI x rate).f1, .int .i64 (shiftI x.f5 (wrap64 (x.f2 - x.f3)) 0).f0, .int .i64 (shiftI x.f5 (wrap64 (x.f2 - x.f3)) 0).f1] 35)) (W8.heap.size + 1) #[.int .i64 (forthI x rate).f0, .int .i64 (forthI x rate).f1, .int .i64 (shiftI x.f5 (wrap64 (x.f2 - x.f3)) 0).f0, .int .i64 (shiftI x.f5 (wrap64 (x.f2 - x.f3)) 0).f1] 35 := (by have h_ := blk_new (W8.alloc (.cells #[.int .i64 (shiftI x.f5 (wrap64 (x.f2 - x.f3)) 0).f0, .int .i64 (shiftI x.f5 (wrap64 (x.f2 - x.f3)) 0).f1] 35)) (.cells #[.int .i64 (forthI x rate).f0, .int .i64 (forthI x rate).f1, .int .i64 (shiftI x.f5 (wrap64 (x.f2 - x.f3)) 0).f0, .int .i64 (shiftI x.f5 (wrap64 (x.f2 - x.f3)) 0).f1] 35); first | exact h_ | (simp only [World.size_alloc] at h_; exact h_))
 replace m2 : Blk ((W8.alloc (.cells #[.int .i64 (shiftI x.f5 (wrap64 (x.f2 - x.f3)) 0).f0, .int .i64 (shiftI x.f5 (wrap64 (x.f2 - x.f3)) 0).f1] 35)).alloc (.cells #[.int .i64 (forthI x rate).f0, .int .i64 (forthI x rate).f1, .int .i64 (shiftI x.f5 (wrap64 (x.f2 - x.f3)) 0).f0, .int .i64 (shiftI x.f5 (wrap64 (x.f2 - x.f3)) 0).f1] 35)) g2 #[.int .i64 x.f0, .int .i64 x.f1, .int .i64 x.f2, .int .i64 x.f3, .int .i64 x.f4.f0, .int .i64 x.f4.f1, .int .i64 x.f5.f0, .int .i64 x.f5.f1] 46 := (blk_alloc (blk_alloc m2 _) _)
 replace m4 : Blk ((W8.alloc (.cells #[.int .i64 (shiftI x.f5 (wrap64 (x.f2 - x.f3)) 0).f0, .int .i64 (shiftI x.f5 (wrap64 (x.f2 - x.f3)) 0).f1] 35)).alloc (.cells #[.int .i64 (forthI x rate).f0, .int .i64 (forthI x rate).f1, .int .i64 (shiftI x.f5 (wrap64 (x.f2 - x.f3)) 0).f0, .int .i64 (shiftI x.f5 (wrap64 (x.f2 - x.f3)) 0).f1] 35)) g4 #[.int .i64 0, .int .i64 0] 35 := (blk_alloc (blk_alloc m4 _) _)
 replace m6 : Blk ((W8.alloc (.cells #[.int .i64 (shiftI x.f5 (wrap64 (x.f2 - x.f3)) 0).f0, .int .i64 (shiftI x.f5 (wrap64 (x.f2 - x.f3)) 0).f1] 35)).alloc (.cells #[.int .i64 (forthI x rate).f0, .int .i64 (forthI x rate).f1, .int .i64 (shiftI x.f5 (wrap64 (x.f2 - x.f3)) 0).f0, .int .i64 (shiftI x.f5 (wrap64 (x.f2 - x.f3)) 0).f1] 35)) g6 #[.int .i64 (forthI x rate).f0, .int .i64 (forthI x rate).f1] 35 := (blk_alloc (blk_alloc m6 _) _)
 replace mB : Below w.heap.size w ((W8.alloc (.cells #[.int .i64 (shiftI x.f5 (wrap64 (x.f2 - x.f3)) 0).f0, .int .i64 (shiftI x.f5 (wrap64 (x.f2 - x.f3)) 0).f1] 35)).alloc (.cells #[.int .i64 (forthI x rate).f0, .int .i64 (forthI x rate).f1, .int .i64 (shiftI x.f5 (wrap64 (x.f2 - x.f3)) 0).f0, .int .i64 (shiftI x.f5 (wrap64 (x.f2 - x.f3)) 0).f1] 35)) := (below_alloc (below_alloc mB _) _)
 have hsz_ : w.heap.size ≤ W8.heap.size := hs_W8
 generalize hW_ : ((W8.alloc (.cells #[.int .i64 (shiftI x.f5 (wrap64 (x.f2 - x.f3)) 0).f0, .int .i64 (shiftI x.f5 (wrap64 (x.f2 - x.f3)) 0).f1] 35)).alloc (.cells #[.int .i64 (forthI x rate).f0, .int .i64 (forthI x rate).f1, .int .i64 (shiftI x.f5 (wrap64 (x.f2 - x.f3)) 0).f0, .int .i64 (shiftI x.f5 (wrap64 (x.f2 - x.f3)) 0).f1] 35)) = W9 at m2 m4 m6 m7 mR mB ⊢
 clear hW_
 generalize hg7 : W8.heap.size = g7 at m7 mR ⊢
 have hn_2_7 : g2 ≠ g7 := by omega
 have hn_4_7 : g4 ≠ g7 := by omega
 have hn_6_7 : g6 ≠ g7 := by omega
 have hn_7_2 : g7 ≠ g2 := hn_2_7.symm
 have hn_7_4 : g7 ≠ g4 := hn_4_7.symm
 have hn_7_6 : g7 ≠ g6 := hn_6_7.symm
 have hG7 : w.heap.size ≤ g7 := by omega
 generalize hgR : g7 + 1 = gR at mR ⊢
 have hn_2_R : g2 ≠ gR := by omega
 have hn_4_R : g4 ≠ gR := by omega
 have hn_6_R : g6 ≠ gR := by omega
 have hn_7_R : g7 ≠ gR := by omega
 have hn_R_2 : gR ≠ g2 := hn_2_R.symm
 have hn_R_4 : gR ≠ g4 := hn_4_R.symm
 have hn_R_6 : gR ≠ g6 := hn_6_R.symm
 have hn_R_7 : gR ≠ g7 := hn_7_R.symm
 have hGR : w.heap.size ≤ gR := by omega
 clear hsz_ hl_2 hl_4 hl_6
 try clear hgR
 try clear hg7
 have hs_W9 : w.heap.size ≤ W9.heap.size := mB.size
 refine (values35_any _ _ _ _).mono ?_
 rintro e W_ ⟨rfl, rfl⟩
 have hl_2 := blk_lt m2
 have hl_4 := blk_lt m4
 have hl_6 := blk_lt m6
 have hl_7 := blk_lt m7
 have hl_R := blk_lt mR
 have mV : Blk (W9.alloc (.cells #[.slice (some ⟨gR, 0, none⟩) 2 2] 65)) (W9.heap.size) #[.slice (some ⟨gR, 0, none⟩) 2 2] 65 := (by have h_ := blk_new W9 (.cells #[.slice (some ⟨gR, 0, none⟩) 2 2] 65); first | exact h_ | (simp only [World.size_alloc] at h_; exact h_))
 replace m2 : Blk (W9.alloc (.cells #[.slice (some ⟨gR, 0, none⟩) 2 2] 65)) g2 #[.int .i64 x.f0, .int .i64 x.f1, .int .i64 x.f2, .int .i64 x.f3, .int .i64 x.f4.f0, .int .i64 x.f4.f1, .int .i64 x.f5.f0, .int .i64 x.f5.f1] 46 := (blk_alloc m2 _)
 replace m4 : Blk (W9.alloc (.cells #[.slice (some ⟨gR, 0, none⟩) 2 2] 65)) g4 #[.int .i64 0, .int .i64 0] 35 := (blk_alloc m4 _)
 replace m6 : Blk (W9.alloc (.cells #[.slice (some ⟨gR, 0, none⟩) 2 2] 65)) g6 #[.int .i64 (forthI x rate).f0, .int .i64 (forthI x rate).f1] 35 := (blk_alloc m6 _)
 replace m7 : Blk (W9.alloc (.cells #[.slice (some ⟨gR, 0, none⟩) 2 2] 65)) g7 #[.int .i64 (shiftI x.f5 (wrap64 (x.f2 - x.f3)) 0).f0, .int .i64 (shiftI x.f5 (wrap64 (x.f2 - x.f3)) 0).f1] 35 := (blk_alloc m7 _)
 replace mR : Blk (W9.alloc (.cells #[.slice (some ⟨gR, 0, none⟩) 2 2] 65)) gR #[.int .i64 (forthI x rate).f0, .int .i64 (forthI x rate).f1, .int .i64 (shiftI x.f5 (wrap64 (x.f2 - x.f3)) 0).f0, .int .i64 (shiftI x.f5 (wrap64 (x.f2 - x.f3)) 0).f1] 35 := (blk_alloc mR _)
 replace mB : Below w.heap.size w (W9.alloc (.cells #[.slice (some ⟨gR, 0, none⟩) 2 2] 65)) := (below_alloc mB _)
 have hsz_ : w.heap.size ≤ W9.heap.size := hs_W9
 generalize hW_ : (W9.alloc (.cells #[.slice (some ⟨gR, 0, none⟩) 2 2] 65)) = W10 at m2 m4 m6 m7 mR mV mB ⊢
 clear hW_
 generalize hgV : W9.heap.size = gV at mV ⊢
 have hn_2_V : g2 ≠ gV := by omega
 have hn_4_V : g4 ≠ gV := by omega
 have hn_6_V : g6 ≠ gV := by omega
 have hn_7_V : g7 ≠ gV := by omega
 have hn_R_V : gR ≠ gV := by omega
 have hn_V_2 : gV ≠ g2 := hn_2_V.symm
 have hn_V_4 : gV ≠ g4 := hn_4_V.symm
 have hn_V_6 : gV ≠ g6 := hn_6_V.symm
 have hn_V_7 : gV ≠ g7 := hn_7_V.symm
 have hn_V_R : gV ≠ gR := hn_R_V.symm
 have hGV : w.heap.size ≤ gV := by omega
 clear hsz_ hl_2 hl_4 hl_6 hl_7 hl_R
 try clear hgV
 have hs_W10 : w.heap.size ≤ W10.heap.size := mB.size
 go_wp2_with fail
 have hC := C_two (y := homeI x) mR
 have hcon := meet35_any 101 85 #[.pointer (some ⟨gV, 0, none⟩)] #[] W10 [forthI x rate, homeI x] id (enters_of Try.func101 zq1 rfl) (enters_of Try.func85 zq1 rfl) (fun W_ hb_ => values35_stops 5 (by omega) gV W10 W_ (some ⟨gR, 0, none⟩) 2 [forthI x rate, homeI x] (by simp) hC hb_ (Nat.lt_of_lt_of_le (blk_lt mV) hb_.size) ((blk_cell (blk_below mV hb_) 0).trans rfl)) itself_span
 (with_reducible refine hcon.mono ?_)
 clear hcon
 rintro e W11 ⟨rfl, hb⟩
 replace m2 := blk_below m2 hb
 replace m4 := blk_below m4 hb
 replace m6 := blk_below m6 hb
 replace m7 := blk_below m7 hb
 replace mR := blk_below mR hb
 replace mV := blk_below mV hb
 replace mB := below_step mB hb
 clear hb
 have hs_W11 : w.heap.size ≤ W11.heap.size := mB.size
 have hm : meetF ([forthI x rate, homeI x].map id) = offsetI x rate := rfl
 rw [hm]
 clear hm
 generalize hR : offsetI x rate = R
 have HR := Lib.hid hR
 clear hR
 obtain ⟨f4_0, f4_1⟩ := zfs2 m4
 obtain ⟨c4_0, c4_1⟩ := zcs2 m4
 go_wp2
 exact bodyPost_ret (results_ct rfl _ _ g4 35 #[.int .i64 R.1, .int .i64 R.2] (0, 0) _ rfl (blk_put (blk_put m4 0 _ rfl) 1 _ rfl) Try.underlying35 rfl zq1) rfl ⟨by rw [HR.out]; rfl, (mB.setCell hG4 _).setCell hG4 _⟩
end Go.Proofs.Ytcjdhajdoikojaa.Clk
end
section
/- The offset of a clock at a reading, as the program computes it out of its anchors. -/
namespace Go.Proofs.Ytcjdhajdoikojaa.Clk
open Go.RowKit Go.Shelf Go.Proofs.YtcjdhajdoikojaaW.PrintWords Go.Proofs.YtcjdhajdoikojaaW.PrintLast Go.Proofs.YtcjdhajdoikojaaW.PrintMore Go.Proofs.Ytcjdhajdoikojaa.Pr Go.Proofs.YtcjdhajdoikojaaW.Round
set_option linter.unusedVariables false
set_option linter.unusedSimpArgs false

set_option maxRecDepth 100000 in
set_option maxHeartbeats 2000000 in
theorem at1_any (b : Nat) (par rate : Int) (ys : List S105) (a : S105) (t : Int) (B1 B2 : Nat) (w : World) (mp : Blk w B1 #[.pointer (some ⟨b, 0, none⟩)] 99) (mt : Blk w B2 #[.int .i64 t] 2) (hF : FaceAt w b par rate ys) :
  Calls Try.prog 89 #[.agg #[.int .i64 a.f0.f0, .int .i64 a.f0.f1, .int .i64 a.f1], .pointer (some ⟨B1, 0, none⟩), .pointer (some ⟨B2, 0, none⟩)] w fun e w' =>
   e = .returned (.agg #[.int .i64 (seenI rate a t).f0, .int .i64 (seenI rate a t).f1]) ∧ Below w.heap.size w w' := by
 have hu35 := Try.underlying35
 have hu105 := Try.underlying105
 have cp_0 : ∀ o0_ o1_, ((w.alloc o0_).alloc o1_).cell? ⟨B1, 0, none⟩ = some (.pointer (some ⟨b, 0, none⟩)) := fun o0_ o1_ => (blk_cell (blk_alloc (blk_alloc mp o0_) o1_) 0).trans rfl
 have ct_0 : ∀ o0_ o1_, ((w.alloc o0_).alloc o1_).cell? ⟨B2, 0, none⟩ = some (.int .i64 t) := fun o0_ o1_ => (blk_cell (blk_alloc (blk_alloc mt o0_) o1_) 0).trans rfl
 go_enter Try.func89, Try.ntmps89
 go_wp2_with fail
 clear cp_0 ct_0
 have hl_p := blk_lt mp
 have hl_t := blk_lt mt
 have m3 : Blk ((w.alloc (.cells #[.int .i64 a.f0.f0, .int .i64 a.f0.f1, .int .i64 a.f1] 105)).alloc (.cells #[.int .i64 0, .int .i64 0] 35)) (w.heap.size) #[.int .i64 a.f0.f0, .int .i64 a.f0.f1, .int .i64 a.f1] 105 := (blk_alloc (by have h_ := blk_new w (.cells #[.int .i64 a.f0.f0, .int .i64 a.f0.f1, .int .i64 a.f1] 105); first | exact h_ | (simp only [World.size_alloc] at h_; exact h_)) _)
 have m4 : Blk ((w.alloc (.cells #[.int .i64 a.f0.f0, .int .i64 a.f0.f1, .int .i64 a.f1] 105)).alloc (.cells #[.int .i64 0, .int .i64 0] 35)) (w.heap.size + 1) #[.int .i64 0, .int .i64 0] 35 := (by have h_ := blk_new (w.alloc (.cells #[.int .i64 a.f0.f0, .int .i64 a.f0.f1, .int .i64 a.f1] 105)) (.cells #[.int .i64 0, .int .i64 0] 35); first | exact h_ | (simp only [World.size_alloc] at h_; exact h_))
 replace mp : Blk ((w.alloc (.cells #[.int .i64 a.f0.f0, .int .i64 a.f0.f1, .int .i64 a.f1] 105)).alloc (.cells #[.int .i64 0, .int .i64 0] 35)) B1 #[.pointer (some ⟨b, 0, none⟩)] 99 := (blk_alloc (blk_alloc mp _) _)
 replace mt : Blk ((w.alloc (.cells #[.int .i64 a.f0.f0, .int .i64 a.f0.f1, .int .i64 a.f1] 105)).alloc (.cells #[.int .i64 0, .int .i64 0] 35)) B2 #[.int .i64 t] 2 := (blk_alloc (blk_alloc mt _) _)
 have mB : Below w.heap.size w ((w.alloc (.cells #[.int .i64 a.f0.f0, .int .i64 a.f0.f1, .int .i64 a.f1] 105)).alloc (.cells #[.int .i64 0, .int .i64 0] 35)) := (below_alloc (below_alloc (Below.refl w.heap.size w) _) _)
 have hsz_ : w.heap.size ≤ w.heap.size := Nat.le_refl _
 generalize hW_ : ((w.alloc (.cells #[.int .i64 a.f0.f0, .int .i64 a.f0.f1, .int .i64 a.f1] 105)).alloc (.cells #[.int .i64 0, .int .i64 0] 35)) = W1 at mp mt m3 m4 mB ⊢
 clear hW_
 generalize hg3 : w.heap.size = g3 at m3 m4 ⊢
 have hn_p_3 : B1 ≠ g3 := by omega
 have hn_t_3 : B2 ≠ g3 := by omega
 have hn_3_p : g3 ≠ B1 := hn_p_3.symm
 have hn_3_t : g3 ≠ B2 := hn_t_3.symm
 have hG3 : w.heap.size ≤ g3 := by omega
 generalize hg4 : g3 + 1 = g4 at m4 ⊢
 have hn_p_4 : B1 ≠ g4 := by omega
 have hn_t_4 : B2 ≠ g4 := by omega
 have hn_3_4 : g3 ≠ g4 := by omega
 have hn_4_p : g4 ≠ B1 := hn_p_4.symm
 have hn_4_t : g4 ≠ B2 := hn_t_4.symm
 have hn_4_3 : g4 ≠ g3 := hn_3_4.symm
 have hG4 : w.heap.size ≤ g4 := by omega
 clear hsz_ hl_p hl_t
 try clear hg4
 try clear hg3
 have hs_W1 : w.heap.size ≤ W1.heap.size := mB.size
 have hcon := seen_any b par rate ys a t W1 (hF.below mB)
 (with_reducible refine hcon.mono ?_)
 clear hcon
 rintro e W2 ⟨rfl, hb⟩
 replace mp := blk_below mp hb
 replace mt := blk_below mt hb
 replace m3 := blk_below m3 hb
 replace m4 := blk_below m4 hb
 replace mB := below_step mB hb
 clear hb
 have hs_W2 : w.heap.size ≤ W2.heap.size := mB.size
 generalize hR : seenI rate a t = R
 have HR := Lib.hid hR
 clear hR
 obtain ⟨f4_0, f4_1⟩ := zfs2 m4
 obtain ⟨c4_0, c4_1⟩ := zcs2 m4
 go_wp2
 exact bodyPost_ret (results_cell_row rfl _ _ g4 35 #[.int .i64 R.f0, .int .i64 R.f1] (0, 0) _ rfl (blk_put (blk_put m4 0 _ rfl) 1 _ rfl) Try.underlying35 rfl zq1) rfl ⟨by rw [HR.out], (mB.setCell hG4 _).setCell hG4 _⟩

/-- The offset of a clock at a reading. -/
def atI (rate : Int) (ys : List S105) (t : Int) : Int × Int := meetF (ys.map fun a => seenI rate a t)

set_option maxRecDepth 100000 in
set_option maxHeartbeats 2000000 in
theorem at_any (b : Nat) (par rate : Int) (ys : List S105) (hl : ys.length ≤ 1000) (t : Int) (w : World) (hF : FaceAt w b par rate ys) :
  Calls Try.prog 58 #[.pointer (some ⟨b, 0, none⟩), .int .i64 t] w fun e w' => e = .returned (.agg #[.int .i64 (atI rate ys t).1, .int .i64 (atI rate ys t).2]) ∧ Below w.heap.size w w' := by
 have hu35 := Try.underlying35
 have hu109 := Try.underlying109
 have hF0 := hF
 obtain ⟨A, c, mf, hlc, hC⟩ := hF
 have cf_0 : ∀ o0_ o1_ o2_, (((w.alloc o0_).alloc o1_).alloc o2_).cell? ⟨b, 0, none⟩ = some (.int .i64 par) := fun o0_ o1_ o2_ => (blk_cell (blk_alloc (blk_alloc (blk_alloc mf o0_) o1_) o2_) 0).trans rfl
 have cf_1 : ∀ o0_ o1_ o2_, (((w.alloc o0_).alloc o1_).alloc o2_).cell? ⟨b, 1, none⟩ = some (.int .i64 rate) := fun o0_ o1_ o2_ => (blk_cell (blk_alloc (blk_alloc (blk_alloc mf o0_) o1_) o2_) 1).trans rfl
 have cf_2 : ∀ o0_ o1_ o2_, (((w.alloc o0_).alloc o1_).alloc o2_).cell? ⟨b, 2, none⟩ = some (.slice A ys.length c) := fun o0_ o1_ o2_ => (blk_cell (blk_alloc (blk_alloc (blk_alloc mf o0_) o1_) o2_) 2).trans rfl
 go_enter Try.func58, Try.ntmps58
 go_wp2_with fail
 clear cf_0 cf_1 cf_2
 have hl_f := blk_lt mf
 have m2 : Blk (((w.alloc (.cells #[.pointer (some ⟨b, 0, none⟩)] 99)).alloc (.cells #[.int .i64 t] 2)).alloc (.cells #[.int .i64 0, .int .i64 0] 35)) (w.heap.size) #[.pointer (some ⟨b, 0, none⟩)] 99 := (blk_alloc (blk_alloc zq15 _) _)
 have m3 : Blk (((w.alloc (.cells #[.pointer (some ⟨b, 0, none⟩)] 99)).alloc (.cells #[.int .i64 t] 2)).alloc (.cells #[.int .i64 0, .int .i64 0] 35)) (w.heap.size + 1) #[.int .i64 t] 2 := (blk_alloc (by have h_ := blk_new (w.alloc (.cells #[.pointer (some ⟨b, 0, none⟩)] 99)) (.cells #[.int .i64 t] 2); first | exact h_ | (simp only [World.size_alloc] at h_; exact h_)) _)
 have m4 : Blk (((w.alloc (.cells #[.pointer (some ⟨b, 0, none⟩)] 99)).alloc (.cells #[.int .i64 t] 2)).alloc (.cells #[.int .i64 0, .int .i64 0] 35)) (w.heap.size + 1 + 1) #[.int .i64 0, .int .i64 0] 35 := (by have h_ := blk_new ((w.alloc (.cells #[.pointer (some ⟨b, 0, none⟩)] 99)).alloc (.cells #[.int .i64 t] 2)) (.cells #[.int .i64 0, .int .i64 0] 35); first | exact h_ | (simp only [World.size_alloc] at h_; exact h_))
 replace mf : Blk (((w.alloc (.cells #[.pointer (some ⟨b, 0, none⟩)] 99)).alloc (.cells #[.int .i64 t] 2)).alloc (.cells #[.int .i64 0, .int .i64 0] 35)) b #[.int .i64 par, .int .i64 rate, .slice A ys.length c] 109 := (blk_alloc (blk_alloc (blk_alloc mf _) _) _)
 have mB : Below w.heap.size w (((w.alloc (.cells #[.pointer (some ⟨b, 0, none⟩)] 99)).alloc (.cells #[.int .i64 t] 2)).alloc (.cells #[.int .i64 0, .int .i64 0] 35)) := (below_alloc (below_alloc (below_alloc (Below.refl w.heap.size w) _) _) _)
 have hsz_ : w.heap.size ≤ w.heap.size := Nat.le_refl _
 generalize hW_ : (((w.alloc (.cells #[.pointer (some ⟨b, 0, none⟩)] 99)).alloc (.cells #[.int .i64 t] 2)).alloc (.cells #[.int .i64 0, .int .i64 0] 35)) = W1 at mf m2 m3 m4 mB ⊢
 clear hW_
 generalize hg2 : w.heap.size = g2 at m2 m3 m4 ⊢
 have hn_f_2 : b ≠ g2 := by omega
 have hn_2_f : g2 ≠ b := hn_f_2.symm
 have hG2 : w.heap.size ≤ g2 := by omega
 generalize hg3 : g2 + 1 = g3 at m3 m4 ⊢
 have hn_f_3 : b ≠ g3 := by omega
 have hn_2_3 : g2 ≠ g3 := by omega
 have hn_3_f : g3 ≠ b := hn_f_3.symm
 have hn_3_2 : g3 ≠ g2 := hn_2_3.symm
 have hG3 : w.heap.size ≤ g3 := by omega
 generalize hg4 : g3 + 1 = g4 at m4 ⊢
 have hn_f_4 : b ≠ g4 := by omega
 have hn_2_4 : g2 ≠ g4 := by omega
 have hn_3_4 : g3 ≠ g4 := by omega
 have hn_4_f : g4 ≠ b := hn_f_4.symm
 have hn_4_2 : g4 ≠ g2 := hn_2_4.symm
 have hn_4_3 : g4 ≠ g3 := hn_3_4.symm
 have hG4 : w.heap.size ≤ g4 := by omega
 clear hsz_ hl_f
 try clear hg4
 try clear hg3
 try clear hg2
 have hs_W1 : w.heap.size ≤ W1.heap.size := mB.size
 refine (values105_any _ _ _ _).mono ?_
 rintro e W_ ⟨rfl, rfl⟩
 have hl_f := blk_lt mf
 have hl_2 := blk_lt m2
 have hl_3 := blk_lt m3
 have hl_4 := blk_lt m4
 have mV : Blk (W1.alloc (.cells #[.slice A ys.length c] 107)) (W1.heap.size) #[.slice A ys.length c] 107 := (by have h_ := blk_new W1 (.cells #[.slice A ys.length c] 107); first | exact h_ | (simp only [World.size_alloc] at h_; exact h_))
 replace mf : Blk (W1.alloc (.cells #[.slice A ys.length c] 107)) b #[.int .i64 par, .int .i64 rate, .slice A ys.length c] 109 := (blk_alloc mf _)
 replace m2 : Blk (W1.alloc (.cells #[.slice A ys.length c] 107)) g2 #[.pointer (some ⟨b, 0, none⟩)] 99 := (blk_alloc m2 _)
 replace m3 : Blk (W1.alloc (.cells #[.slice A ys.length c] 107)) g3 #[.int .i64 t] 2 := (blk_alloc m3 _)
 replace m4 : Blk (W1.alloc (.cells #[.slice A ys.length c] 107)) g4 #[.int .i64 0, .int .i64 0] 35 := (blk_alloc m4 _)
 replace mB : Below w.heap.size w (W1.alloc (.cells #[.slice A ys.length c] 107)) := (below_alloc mB _)
 have hsz_ : w.heap.size ≤ W1.heap.size := hs_W1
 generalize hW_ : (W1.alloc (.cells #[.slice A ys.length c] 107)) = W2 at mf m2 m3 m4 mV mB ⊢
 clear hW_
 generalize hgV : W1.heap.size = gV at mV ⊢
 have hn_f_V : b ≠ gV := by omega
 have hn_2_V : g2 ≠ gV := by omega
 have hn_3_V : g3 ≠ gV := by omega
 have hn_4_V : g4 ≠ gV := by omega
 have hn_V_f : gV ≠ b := hn_f_V.symm
 have hn_V_2 : gV ≠ g2 := hn_2_V.symm
 have hn_V_3 : gV ≠ g3 := hn_3_V.symm
 have hn_V_4 : gV ≠ g4 := hn_4_V.symm
 have hGV : w.heap.size ≤ gV := by omega
 clear hsz_ hl_f hl_2 hl_3 hl_4
 try clear hgV
 have hs_W2 : w.heap.size ≤ W2.heap.size := mB.size
 go_wp2_with fail
 have hcon := meet105_any 102 89 #[.pointer (some ⟨gV, 0, none⟩)] #[.pointer (some ⟨g2, 0, none⟩), .pointer (some ⟨g3, 0, none⟩)] W2 ys (fun a => seenI rate a t) (enters_of Try.func102 zq1 rfl) (enters_of Try.func89 zq1 rfl) (fun W_ hb_ => values105_stops 5 (by omega) gV W2 W_ A c ys hl (Kd.C_below hC mB) hb_ (Nat.lt_of_lt_of_le (blk_lt mV) hb_.size) ((blk_cell (blk_below mV hb_) 0).trans rfl)) (fun a W_ hb_ => at1_any b par rate ys a t g2 g3 W_ (blk_below m2 hb_) (blk_below m3 hb_) ((hF0.below mB).below hb_))
 (with_reducible refine hcon.mono ?_)
 clear hcon
 rintro e W3 ⟨rfl, hb⟩
 replace mf := blk_below mf hb
 replace m2 := blk_below m2 hb
 replace m3 := blk_below m3 hb
 replace m4 := blk_below m4 hb
 replace mV := blk_below mV hb
 replace mB := below_step mB hb
 clear hb
 have hs_W3 : w.heap.size ≤ W3.heap.size := mB.size
 have hm : meetF (ys.map fun a => seenI rate a t) = atI rate ys t := rfl
 rw [hm]
 clear hm
 generalize hR : atI rate ys t = R
 have HR := Lib.hid hR
 clear hR
 have f4_0 : ∀ o_, (W3.alloc o_).frozen? ⟨g4, 0, none⟩ = false := fun o_ => blk_frozen (blk_alloc m4 o_) 0
 have f4_1 : ∀ o_, (W3.alloc o_).frozen? ⟨g4, 1, none⟩ = false := fun o_ => blk_frozen (blk_alloc m4 o_) 1
 have c4_0 : ∀ o_, (W3.alloc o_).cell? ⟨g4, 0, none⟩ = some (.int .i64 0) := fun o_ => (blk_cell (blk_alloc m4 o_) 0).trans rfl
 have c4_1 : ∀ o_, (W3.alloc o_).cell? ⟨g4, 1, none⟩ = some (.int .i64 0) := fun o_ => (blk_cell (blk_alloc m4 o_) 1).trans rfl
 go_wp2
 exact bodyPost_ret (results_cell_row rfl _ _ g4 35 #[.int .i64 R.1, .int .i64 R.2] (0, 0) _ rfl (blk_put (blk_put (blk_alloc m4 _) 0 _ rfl) 1 _ rfl) Try.underlying35 rfl zq1) rfl ⟨by rw [HR.out], ((below_alloc mB _).setCell hG4 _).setCell hG4 _⟩
end Go.Proofs.Ytcjdhajdoikojaa.Clk
end
