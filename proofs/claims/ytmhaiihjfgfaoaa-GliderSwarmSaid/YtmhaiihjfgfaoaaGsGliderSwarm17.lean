/- Part 17 of the proof of GliderSwarm: what the functions compute. No condition. -/
import Derived.Test.YtmhaiihjfgfaoaaGsGliderSwarm3
import Derived.Test.YtmhaiihjfgfaoaaGsGliderSwarm12
import Derived.Test.YtmhaiihjfgfaoaaGsGliderSwarm16
import Derived.Test.YtmhaiihjfgfaoaaGsGliderSwarm6
set_option linter.unusedSimpArgs false
set_option linter.unusedVariables false
section
/- Is a box in another one, and are boxes valid: what the program answers. -/
namespace Go.Proofs.Ytmhaiihjfgfaoaa.Gl
open Go.RowKit Go.Shelf Go.Proofs.YtmhaiihjfgfaoaaW.PrintWords Go.Proofs.YtmhaiihjfgfaoaaW.PrintLast Go.Proofs.YtmhaiihjfgfaoaaW.PrintMore Go.Proofs.Ytmhaiihjfgfaoaa.Pr Go.Proofs.YtmhaiihjfgfaoaaW.Round
set_option linter.unusedVariables false
set_option linter.unusedSimpArgs false
attribute [local go_sem] max2_int min2_int max_two min_two max_four
/-- Is a span in another one? -/
def inI (a b : S27) : Int := if (okS a.f0 a.f1 && okS b.f0 b.f1) = true then (if max a.f0 b.f0 ≤ min a.f1 b.f1 then (if b.f0 ≤ a.f0 ∧ a.f1 ≤ b.f1 then 2 else 1) else 0) else 0
def inE (a b : S27) : Int := if (okS a.f0 a.f1 && okS b.f0 b.f1) = true then 0 else 2
theorem in_some (a b : S27) : bound_In.f 3 a.f0 a.f1 b.f0 b.f1 = some (inI a b, inE a b) := by
 unfold bound_In.f inI inE
 rw [check_two 0, Option.bind_some]
 cases h : (okS a.f0 a.f1 && okS b.f0 b.f1) with
 | false => rfl
 | true =>
  rw [if_pos rfl, if_pos rfl, if_pos rfl]
  unfold bound_meet.f
  rw [Option.bind_some]
  dsimp only
  have e1 : mx a.f0 b.f0 = max a.f0 b.f0 := mx_max' _ _
  have e2 : mn a.f1 b.f1 = min a.f1 b.f1 := mn_min' _ _
  rw [e1, e2]
  by_cases h1 : max a.f0 b.f0 ≤ min a.f1 b.f1
  ·rw [if_pos h1, if_pos (decide_eq_true h1)]
   by_cases h2 : b.f0 ≤ a.f0 ∧ a.f1 ≤ b.f1
   ·rw [if_pos h2, if_pos]
    rw [Bool.and_eq_true, beq_iff_eq, beq_iff_eq]
    omega
   ·rw [if_neg h2, if_neg]
    rw [Bool.and_eq_true, beq_iff_eq, beq_iff_eq]
    omega
  ·rw [if_neg h1, if_neg (by rw [decide_eq_false h1]; decide)]
set_option maxRecDepth 100000 in
set_option maxHeartbeats 2000000 in
theorem one_any (a b : S27) (w : World) : Calls Try.prog 127 #[.func (.func 128) #[] #[], .agg #[.int .i64 a.f0, .int .i64 a.f1], .agg #[.int .i64 b.f0, .int .i64 b.f1]] w (RetB (.int .i64 (inI a b)) w) := by
 have hu27 := Try.underlying27
 have eg : ∀ args w, (callFunc 128 args).run Try.prog w = .ok (.enter 128 args) w := enters_of Try.func128 zq1 rfl
 have hcon := fun W => bound_In.calls 3 a.f0 a.f1 b.f0 b.f1 _ _ W (in_some a b)
 generalize inI a b = r at *
 generalize inE a b = r2 at *
 go_enter Try.func127, Try.ntmps127
 go_wp2_with fail
 have m4 : Blk ((w.alloc (.cells #[.int .i64 a.f0, .int .i64 a.f1] 27)).alloc (.cells #[.int .i64 b.f0, .int .i64 b.f1] 27)) (w.heap.size) #[.int .i64 a.f0, .int .i64 a.f1] 27 := (blk_alloc zq16 _)
 have m5 : Blk ((w.alloc (.cells #[.int .i64 a.f0, .int .i64 a.f1] 27)).alloc (.cells #[.int .i64 b.f0, .int .i64 b.f1] 27)) (w.heap.size + 1) #[.int .i64 b.f0, .int .i64 b.f1] 27 := (by have h_ := blk_new (w.alloc (.cells #[.int .i64 a.f0, .int .i64 a.f1] 27)) (.cells #[.int .i64 b.f0, .int .i64 b.f1] 27); first | exact h_ | (simp only [World.size_alloc] at h_; exact h_))
 have mB : Below w.heap.size w ((w.alloc (.cells #[.int .i64 a.f0, .int .i64 a.f1] 27)).alloc (.cells #[.int .i64 b.f0, .int .i64 b.f1] 27)) := (below_alloc (below_alloc (Below.refl w.heap.size w) _) _)
 have hsz_ : w.heap.size ≤ w.heap.size := Nat.le_refl _
 generalize hW_ : ((w.alloc (.cells #[.int .i64 a.f0, .int .i64 a.f1] 27)).alloc (.cells #[.int .i64 b.f0, .int .i64 b.f1] 27)) = W1 at m4 m5 mB ⊢
 clear hW_
 generalize hg4 : w.heap.size = g4 at m4 m5 ⊢
 have hG4 : w.heap.size ≤ g4 := by omega
 generalize hg5 : g4 + 1 = g5 at m5 ⊢
 have hn_4_5 : g4 ≠ g5 := by omega
 have hn_5_4 : g5 ≠ g4 := hn_4_5.symm
 have hG5 : w.heap.size ≤ g5 := by omega
 clear hsz_
 try clear hg5
 try clear hg4
 have hs_W1 : w.heap.size ≤ W1.heap.size := mB.size
 obtain ⟨c4_0, c4_1⟩ := zcs2 m4
 obtain ⟨c5_0, c5_1⟩ := zcs2 m5
 go_wp2_with fail
 clear c4_0 c4_1 c5_0 c5_1
 have hc1 := hcon W1
 (with_reducible refine hc1.mono ?_)
 clear hc1 hcon
 rintro e W2 ⟨rfl, hb⟩
 replace m4 := blk_below m4 hb
 replace m5 := blk_below m5 hb
 replace mB := below_step mB hb
 clear hb
 go_wp2
 go_ret
 exact ⟨rfl, mB⟩
/-- Is a box in another one? -/
def insI (x y : S31) : Int := min (inI x.f0 y.f0) (inI x.f1 y.f1)
set_option maxRecDepth 100000 in
set_option maxHeartbeats 2000000 in
theorem inside_any (x y : S31) (w : World) : Calls Try.prog 89 #[.agg #[.int .i64 x.f0.f0, .int .i64 x.f0.f1, .int .i64 x.f1.f0, .int .i64 x.f1.f1], .agg #[.int .i64 y.f0.f0, .int .i64 y.f0.f1, .int .i64 y.f1.f0, .int .i64 y.f1.f1]] w (RetB (.int .i64 (insI x y)) w) := by
 have hu31 := Try.underlying31
 have hu27 := Try.underlying27
 have k0 := fun W => one_any x.f0 y.f0 W
 have k1 := fun W => one_any x.f1 y.f1 W
 have HR : Hid (insI x y = min (inI x.f0 y.f0) (inI x.f1 y.f1)) := Lib.hid rfl
 generalize inI x.f0 y.f0 = r0 at *
 generalize inI x.f1 y.f1 = r1 at *
 go_enter Try.func89, Try.ntmps89
 go_wp2_with fail
 have m2 : Blk ((w.alloc (.cells #[.int .i64 x.f0.f0, .int .i64 x.f0.f1, .int .i64 x.f1.f0, .int .i64 x.f1.f1] 31)).alloc (.cells #[.int .i64 y.f0.f0, .int .i64 y.f0.f1, .int .i64 y.f1.f0, .int .i64 y.f1.f1] 31)) (w.heap.size) #[.int .i64 x.f0.f0, .int .i64 x.f0.f1, .int .i64 x.f1.f0, .int .i64 x.f1.f1] 31 := (blk_alloc zq22 _)
 have m3 : Blk ((w.alloc (.cells #[.int .i64 x.f0.f0, .int .i64 x.f0.f1, .int .i64 x.f1.f0, .int .i64 x.f1.f1] 31)).alloc (.cells #[.int .i64 y.f0.f0, .int .i64 y.f0.f1, .int .i64 y.f1.f0, .int .i64 y.f1.f1] 31)) (w.heap.size + 1) #[.int .i64 y.f0.f0, .int .i64 y.f0.f1, .int .i64 y.f1.f0, .int .i64 y.f1.f1] 31 := (by have h_ := blk_new (w.alloc (.cells #[.int .i64 x.f0.f0, .int .i64 x.f0.f1, .int .i64 x.f1.f0, .int .i64 x.f1.f1] 31)) (.cells #[.int .i64 y.f0.f0, .int .i64 y.f0.f1, .int .i64 y.f1.f0, .int .i64 y.f1.f1] 31); first | exact h_ | (simp only [World.size_alloc] at h_; exact h_))
 have mB : Below w.heap.size w ((w.alloc (.cells #[.int .i64 x.f0.f0, .int .i64 x.f0.f1, .int .i64 x.f1.f0, .int .i64 x.f1.f1] 31)).alloc (.cells #[.int .i64 y.f0.f0, .int .i64 y.f0.f1, .int .i64 y.f1.f0, .int .i64 y.f1.f1] 31)) := (below_alloc (below_alloc (Below.refl w.heap.size w) _) _)
 have hsz_ : w.heap.size ≤ w.heap.size := Nat.le_refl _
 generalize hW_ : ((w.alloc (.cells #[.int .i64 x.f0.f0, .int .i64 x.f0.f1, .int .i64 x.f1.f0, .int .i64 x.f1.f1] 31)).alloc (.cells #[.int .i64 y.f0.f0, .int .i64 y.f0.f1, .int .i64 y.f1.f0, .int .i64 y.f1.f1] 31)) = W1 at m2 m3 mB ⊢
 clear hW_
 generalize hg2 : w.heap.size = g2 at m2 m3 ⊢
 have hG2 : w.heap.size ≤ g2 := by omega
 generalize hg3 : g2 + 1 = g3 at m3 ⊢
 have hn_2_3 : g2 ≠ g3 := by omega
 have hn_3_2 : g3 ≠ g2 := hn_2_3.symm
 have hG3 : w.heap.size ≤ g3 := by omega
 clear hsz_
 try clear hg3
 try clear hg2
 have hs_W1 : w.heap.size ≤ W1.heap.size := mB.size
 replace m2 := blk_drew m2
 replace m3 := blk_drew m3
 replace mB := below_drew1 mB
 refine start_ (n := 12) (S := fun w' => w'.cell? ⟨g2, 0, none⟩ = some (.int .i64 x.f0.f0) ∧ w'.cell? ⟨g2, 1, none⟩ = some (.int .i64 x.f0.f1) ∧ w'.cell? ⟨g2, 2, none⟩ = some (.int .i64 x.f1.f0) ∧ w'.cell? ⟨g2, 3, none⟩ = some (.int .i64 x.f1.f1) ∧ w'.cell? ⟨g3, 0, none⟩ = some (.int .i64 y.f0.f0) ∧ w'.cell? ⟨g3, 1, none⟩ = some (.int .i64 y.f0.f1) ∧ w'.cell? ⟨g3, 2, none⟩ = some (.int .i64 y.f1.f0) ∧ w'.cell? ⟨g3, 3, none⟩ = some (.int .i64 y.f1.f1)) (ds := []) #[false, false, false, false, false, false, false, false, false, false, false, false] zq1 rfl rfl ⟨((blk_cell m2 0).trans rfl), ((blk_cell m2 1).trans rfl), ((blk_cell m2 2).trans rfl), ((blk_cell m2 3).trans rfl), ((blk_cell m3 0).trans rfl), ((blk_cell m3 1).trans rfl), ((blk_cell m3 2).trans rfl), ((blk_cell m3 3).trans rfl)⟩ (fun hHeld => ?_)
 generalize hWd : World.drew _ = Wx at m2 m3 mB hHeld ⊢
 clear hWd
 refine zpz (i := 0) (N := some 5) zq1 ?_
 refine zpz (i := 2) (N := some 7) zq1 ?_
 refine zpz (i := 5) (N := some 10) zq1 ?_
 refine zpz (i := 7) (N := some 12) zq1 ?_
 refine ztz (i := 1) (N := some 6) zq1 hHeld ?_
 refine ztz (i := 3) (N := some 8) zq1 hHeld ?_
 refine ztz (i := 6) (N := some 11) zq1 hHeld ?_
 refine ztz (i := 8) (N := some 13) zq1 hHeld ?_
 refine one_ (i := 4) (N := some 9) #[true, true, true, true, true, true, true, true, true, false, false, false] rfl rfl zq1 (by decide) (fun K hK => ?_)
 have hcon_ := k0 Wx
 refine goes_ Try.func127 zq1 rfl #[.func (.func 128) #[] #[], .agg #[.int .i64 x.f0.f0, .int .i64 x.f0.f1], .agg #[.int .i64 y.f0.f0, .int .i64 y.f0.f1]] (by rfl) rfl rfl zq18 ?_
 with_reducible refine (hcon_).mono ?_
 rintro e w4 ⟨rfl, hb⟩
 refine ⟨_, rfl, ?_⟩
 clear hcon_
 replace m2 := blk_below m2 hb
 replace m3 := blk_below m3 hb
 replace mB := below_step mB hb
 clear hb
 refine hK.out _ _ ⟨((blk_cell m2 0).trans rfl), ((blk_cell m2 1).trans rfl), ((blk_cell m2 2).trans rfl), ((blk_cell m2 3).trans rfl), ((blk_cell m3 0).trans rfl), ((blk_cell m3 1).trans rfl), ((blk_cell m3 2).trans rfl), ((blk_cell m3 3).trans rfl)⟩ (fun hHeld => ?_)
 clear hK K
 refine norm_ zq17 ?_
 refine one_ (i := 9) (N := some 14) #[true, true, true, true, true, true, true, true, true, true, false, false] rfl rfl zq1 (by decide) (fun K hK => ?_)
 have hcon_ := k1 w4
 refine goes_ Try.func127 zq1 rfl #[.func (.func 128) #[] #[], .agg #[.int .i64 x.f1.f0, .int .i64 x.f1.f1], .agg #[.int .i64 y.f1.f0, .int .i64 y.f1.f1]] (by rfl) rfl rfl zq18 ?_
 with_reducible refine (hcon_).mono ?_
 rintro e w9 ⟨rfl, hb⟩
 refine ⟨_, rfl, ?_⟩
 clear hcon_
 replace m2 := blk_below m2 hb
 replace m3 := blk_below m3 hb
 replace mB := below_step mB hb
 clear hb
 refine hK.out _ _ ⟨((blk_cell m2 0).trans rfl), ((blk_cell m2 1).trans rfl), ((blk_cell m2 2).trans rfl), ((blk_cell m2 3).trans rfl), ((blk_cell m3 0).trans rfl), ((blk_cell m3 1).trans rfl), ((blk_cell m3 2).trans rfl), ((blk_cell m3 3).trans rfl)⟩ (fun hHeld => ?_)
 clear hK K
 refine norm_ zq37 ?_
 refine zpz (i := 10) (N := some 15) zq1 ?_
 refine zpz (i := 11) (N := some 4) zq1 ?_
 refine done_ zq1 ?_
 go_wp2
 all_goals (go_ret; first | (have hm : insI x y = r0 := (by rw [HR.out]; omega); exact ⟨by rw [hm]; rfl, mB⟩) | (have hm : insI x y = r1 := (by rw [HR.out]; omega); exact ⟨by rw [hm]; rfl, mB⟩))

/-- What is wrong with boxes? -/
def boxesE (l : List S31) : Int := if l.length > 64 then 6 else if l.any (fun x => !boxB x) then 2 else 0
set_option maxRecDepth 100000 in
set_option maxHeartbeats 2000000 in
theorem cb1_any (x : S31) (w : World) : Calls Try.prog 126 #[.agg #[.int .i64 x.f0.f0, .int .i64 x.f0.f1, .int .i64 x.f1.f0, .int .i64 x.f1.f1]] w (RetB (.bool (!boxB x)) w) := by
 have hu31 := Try.underlying31
 have hu27 := Try.underlying27
 have k0 := fun W => box_any x W
 have HE : Hid (boxE x = if boxB x then 0 else 2) := Lib.hid rfl
 go_enter Try.func126, Try.ntmps126
 go_wp2_with fail
 have m1 : Blk (w.alloc (.cells #[.int .i64 x.f0.f0, .int .i64 x.f0.f1, .int .i64 x.f1.f0, .int .i64 x.f1.f1] 31)) (w.heap.size) #[.int .i64 x.f0.f0, .int .i64 x.f0.f1, .int .i64 x.f1.f0, .int .i64 x.f1.f1] 31 := zq22
 have mB : Below w.heap.size w (w.alloc (.cells #[.int .i64 x.f0.f0, .int .i64 x.f0.f1, .int .i64 x.f1.f0, .int .i64 x.f1.f1] 31)) := (below_alloc (Below.refl w.heap.size w) _)
 have hsz_ : w.heap.size ≤ w.heap.size := Nat.le_refl _
 generalize hW_ : (w.alloc (.cells #[.int .i64 x.f0.f0, .int .i64 x.f0.f1, .int .i64 x.f1.f0, .int .i64 x.f1.f1] 31)) = W1 at m1 mB ⊢
 clear hW_
 generalize hg1 : w.heap.size = g1 at m1 ⊢
 have hG1 : w.heap.size ≤ g1 := by omega
 clear hsz_
 try clear hg1
 have hs_W1 : w.heap.size ≤ W1.heap.size := mB.size
 obtain ⟨c1_0, c1_1, c1_2, c1_3⟩ := zcs4 m1
 go_wp2_with fail
 clear c1_0 c1_1 c1_2 c1_3
 have hcon := k0 W1
 (with_reducible refine hcon.mono ?_)
 clear hcon
 rintro e W2 ⟨rfl, hb⟩
 replace m1 := blk_below m1 hb
 replace mB := below_step mB hb
 clear hb
 have hs_W2 : w.heap.size ≤ W2.heap.size := mB.size
 cases h : boxB x with
 | true =>
  have HZ : Hid (boxE x = 0) := Lib.hid (by rw [HE.out, h]; rfl)
  have HB := Lib.hid h
  clear h HE k0
  generalize boxE x = E at *
  have hz := HZ.out
  subst hz
  go_wp2
  go_ret
  exact ⟨by rw [HB.out]; rfl, mB⟩
 | false =>
  have HZ : Hid (boxE x = 2) := Lib.hid (by rw [HE.out, h]; rfl)
  have HB := Lib.hid h
  clear h HE k0
  generalize boxE x = E at *
  have hz := HZ.out
  subst hz
  go_wp2
  go_ret
  exact ⟨by rw [HB.out]; rfl, mB⟩
set_option maxRecDepth 100000 in
set_option maxHeartbeats 2000000 in
theorem boxes_any (A : Option Addr) (c : Nat) (l : List S31) (w : World) (hC : Kd.C k31 w A l.length l) (hc : l.length ≤ c) : Calls Try.prog 88 #[.slice A l.length c] w (RetB (.int .i64 (boxesE l)) w) := by
 have hu31 := Try.underlying31
 have hu27 := Try.underlying27
 have hb := hC.2.1
 have HR : Hid (boxesE l = if l.length > 64 then 6 else if l.any (fun x => !boxB x) then 2 else 0) := Lib.hid rfl
 by_cases h : l.length > 64
 ·have hd : decide (64 < (l.length : Int)) = true := decide_eq_true (by omega)
  have HZ := Lib.hid (HR.out.trans (if_pos h))
  clear h HR
  go_enter Try.func88, Try.ntmps88
  go_wp2
  go_ret
  exact ⟨zq15, Below.refl _ _⟩
 ·have hd : decide (64 < (l.length : Int)) = false := decide_eq_false (by omega)
  have HZ := Lib.hid (HR.out.trans (if_neg h))
  have hcon := fun W (hW : Below w.heap.size w W) => cont31_any 126 #[] (fun x => !boxB x) A c l W (Kd.C_below hC hW) hc (enters_of Try.func126 zq1 rfl) (fun x W _ => cb1_any x W)
  generalize l.any (fun x => !boxB x) = r at *
  clear h HR
  go_enter Try.func88, Try.ntmps88
  go_wp2_with fail
  (with_reducible refine (hcon _ (Below.refl _ _)).mono ?_)
  clear hcon
  rintro e W1 ⟨rfl, mB⟩
  cases r
  ·go_wp2
   go_ret
   exact ⟨zq15, mB⟩
  ·go_wp2
   go_ret
   exact ⟨zq15, mB⟩
end Go.Proofs.Ytmhaiihjfgfaoaa.Gl
end
section
/- The contracts of exported functions, as the printed texts ask for them. -/
namespace Go.Proofs.Ytmhaiihjfgfaoaa.Pr
open Go.RowKit Go.Proofs.YtmhaiihjfgfaoaaW.PrintWords Go.Proofs.YtmhaiihjfgfaoaaW.PrintLast Go.Proofs.YtmhaiihjfgfaoaaW.PrintMore Go.Proofs.Ytmhaiihjfgfaoaa.Gl
set_option linter.unusedVariables false
def glider_checkBoxes.f (l0 : List (S31)) : Option (Int) := some (boxesE l0)
theorem glider_checkBoxes.calls (A0 : Option Addr) (c0 : Nat) (l0 : List (S31)) (r : Int) (w : World) (hr0 : Kd.C k31 w A0 l0.length l0) (hc0 : l0.length ≤ c0) (h : glider_checkBoxes.f l0 = some r) :
  Calls Try.prog 88 #[.slice A0 l0.length c0] w fun e w' => e = .returned (.int .i64 r) ∧ Below w.heap.size w w' := by
 cases h
 exact boxes_any A0 c0 l0 w hr0 hc0
end Go.Proofs.Ytmhaiihjfgfaoaa.Pr
end
section
/- The contracts of exported functions, as the printed texts ask for them. -/
namespace Go.Proofs.Ytmhaiihjfgfaoaa.Pr
open Go.RowKit Go.Proofs.YtmhaiihjfgfaoaaW.PrintWords Go.Proofs.YtmhaiihjfgfaoaaW.PrintLast Go.Proofs.YtmhaiihjfgfaoaaW.PrintMore Go.Proofs.Ytmhaiihjfgfaoaa.Gl
set_option linter.unusedVariables false
def glider_inside.f (a0_0 : Int) (a0_1 : Int) (a0_2 : Int) (a0_3 : Int) (a1_0 : Int) (a1_1 : Int) (a1_2 : Int) (a1_3 : Int) : Option (Int) := some (insI ⟨⟨a0_0, a0_1⟩, ⟨a0_2, a0_3⟩⟩ ⟨⟨a1_0, a1_1⟩, ⟨a1_2, a1_3⟩⟩)
theorem glider_inside.calls (a0_0 : Int) (a0_1 : Int) (a0_2 : Int) (a0_3 : Int) (a1_0 : Int) (a1_1 : Int) (a1_2 : Int) (a1_3 : Int) (r : Int) (w : World) (h : glider_inside.f a0_0 a0_1 a0_2 a0_3 a1_0 a1_1 a1_2 a1_3 = some r) :
  Calls Try.prog 89 #[.agg #[.int .i64 a0_0, .int .i64 a0_1, .int .i64 a0_2, .int .i64 a0_3], .agg #[.int .i64 a1_0, .int .i64 a1_1, .int .i64 a1_2, .int .i64 a1_3]] w fun e w' => e = .returned (.int .i64 r) ∧ Below w.heap.size w w' := by
 cases h
 exact inside_any ⟨⟨a0_0, a0_1⟩, ⟨a0_2, a0_3⟩⟩ ⟨⟨a1_0, a1_1⟩, ⟨a1_2, a1_3⟩⟩ w
end Go.Proofs.Ytmhaiihjfgfaoaa.Pr
end
section
/- Is a run among some too long: what the program answers. -/
namespace Go.Proofs.Ytmhaiihjfgfaoaa.Gl
open Go.RowKit Go.Shelf Go.Proofs.YtmhaiihjfgfaoaaW.PrintWords Go.Proofs.YtmhaiihjfgfaoaaW.PrintLast Go.Proofs.YtmhaiihjfgfaoaaW.PrintMore Go.Proofs.Ytmhaiihjfgfaoaa.Pr Go.Proofs.YtmhaiihjfgfaoaaW.Round
set_option linter.unusedVariables false
set_option linter.unusedSimpArgs false
attribute [local go_sem] max2_int min2_int max_two min_two max_four
set_option maxRecDepth 100000 in
set_option maxHeartbeats 2000000 in
theorem v1_any (n c : Nat) (A : Option Addr) (w : World) : Calls Try.prog 87 #[.slice A n c] w (RetB (.bool (decide (64 < n))) w) := by
 by_cases h : 64 < n
 ·have hd : decide (64 < (n : Int)) = true := decide_eq_true (by omega)
  have HD := Lib.hid (decide_eq_true h)
  clear h
  go_enter Try.func87, Try.ntmps87
  go_wp2
  go_ret
  exact ⟨by rw [HD.out]; rfl, Below.refl _ _⟩
 ·have hd : decide (64 < (n : Int)) = false := decide_eq_false (by omega)
  have HD := Lib.hid (decide_eq_false h)
  clear h
  go_enter Try.func87, Try.ntmps87
  go_wp2
  go_ret
  exact ⟨by rw [HD.out]; rfl, Below.refl _ _⟩
set_option maxRecDepth 100000 in
set_option maxHeartbeats 2000000 in
theorem idx50_any (A : Option Addr) (c : Nat) (l : List (List S31)) (w : World) (hC : Kd.C (Kd.slice 31 k31) w A l.length l) (hc : l.length ≤ c) :
  Calls Try.prog 124 #[.slice A l.length c, .func (.func 87) #[] #[]] w (RetB (.int .i64 (idxI (fun x => decide (64 < x.length)) l)) w) := by
 have eg : ∀ args w, (callFunc 87 args).run Try.prog w = .ok (.enter 87 args) w := enters_of Try.func87 zq1 rfl
 have hb := hC.2.1
 have HI : Hid (idxI (fun x => decide (64 < x.length)) l = match l.findIdx? (fun x => decide (64 < x.length)) with | none => -1 | some i => (i : Int)) := Lib.hid rfl
 go_enter Try.func124, Try.ntmps124
 go_wp2
 go_loopw [8] (fun i wr => ∃ (k : Nat), k ≤ l.length ∧ i = .int .i64 k ∧ Hid ((l.take k).any (fun x => decide (64 < x.length)) = false) ∧ Below w.heap.size w wr) (fun i _ => l.length - (intOf i).toNat)
 case atStart => exact ⟨0, Nat.zero_le _, rfl, Lib.hid (by simp), Below.refl _ _⟩
 case round =>
  obtain ⟨k, hk, rfl, HA, mB⟩ := hrel
  by_cases hlt : k < l.length
  ·obtain ⟨ad, A0, c0, rfl, hx0, hc0, hC0⟩ := at_L11 hC k (by omega) (by omega)
   simp only [Int.toNat_natCast] at hx0
   clear hC0 hc0
   replace hx0 := (mB.cell (World.block_lt_of_cell? w _ hx0)).trans hx0
   have hlk : l[k]? = some (rd_L11 l (k : Int)) := by simp [rd_L11, List.getD_eq_getElem?_getD, hlt]
   have htk : l.take (k + 1) = l.take k ++ [rd_L11 l (k : Int)] := by rw [List.take_add_one, hlk]; rfl
   generalize rd_L11 l (k : Int) = x at *
   have HT := Lib.hid htk
   have HK := Lib.hid hlk
   clear htk hlk
   go_wp2_with fail
   have hcon := v1_any x.length c0 A0 wr
   (with_reducible refine hcon.mono ?_)
   clear hcon hx0
   rintro e W1 ⟨rfl, hb1⟩
   replace mB := below_step mB hb1
   clear hb1
   cases hbx : decide (64 < x.length) with
   | true =>
    have HE := Lib.hid (HI.out.trans (by rw [findIdx_at HK.out HA.out hbx]))
    clear hbx
    go_wp2
    go_ret
    exact ⟨by rw [HE.out]; rfl, mB⟩
   | false =>
    have HB := Lib.hid hbx
    clear hbx
    go_wp2
    go_roundw
    case rel => exact ⟨k + 1, by omega, by simp, Lib.hid zq13, mB⟩
    case measure => simp [intOf]; omega
  ·obtain rfl : k = l.length := by omega
   rw [List.take_length] at HA
   have hn : l.findIdx? (fun x => decide (64 < x.length)) = none := by
    rw [List.findIdx?_eq_none_iff]
    intro x hx
    have := List.any_eq_false.1 HA.out x hx
    simpa using this
   have HE := Lib.hid (HI.out.trans (by rw [hn]))
   clear hn
   go_wp2
   go_ret
   exact ⟨by rw [HE.out]; rfl, mB⟩
set_option maxHeartbeats 1000000 in
theorem cont50_any (A : Option Addr) (c : Nat) (l : List (List S31)) (w : World) (hC : Kd.C (Kd.slice 31 k31) w A l.length l) (hc : l.length ≤ c) :
  Calls Try.prog 86 #[.slice A l.length c, .func (.func 87) #[] #[]] w (RetB (.bool (l.any (fun x => decide (64 < x.length)))) w) := by
 have hcon := idx50_any A c l w hC hc
 have hx := idxI_any (fun x => decide (64 < x.length)) l
 generalize idxI (fun x => decide (64 < x.length)) l = I at *
 generalize l.any (fun x => decide (64 < x.length)) = R at *
 go_enter Try.func86, Try.ntmps86
 go_wp2_with fail
 (with_reducible refine hcon.mono ?_)
 clear hcon
 rintro e W1 ⟨rfl, mB⟩
 rcases hx with ⟨h1, h2⟩ | ⟨h1, h2⟩
 ·have HA := Lib.hid h2
  have hd : decide (0 ≤ I) = false := decide_eq_false (by omega)
  clear h1 h2
  go_wp2
  go_ret
  exact ⟨by rw [HA.out]; rfl, mB⟩
 ·have HA := Lib.hid h2
  have hd : decide (0 ≤ I) = true := decide_eq_true (by omega)
  clear h1 h2
  go_wp2
  go_ret
  exact ⟨by rw [HA.out]; rfl, mB⟩
end Go.Proofs.Ytmhaiihjfgfaoaa.Gl
end
section
/- A call with a function that is known, as the printed text asks for it. -/
namespace Go.Proofs.Ytmhaiihjfgfaoaa.Pr
open Go.RowKit Go.Proofs.YtmhaiihjfgfaoaaW.PrintWords Go.Proofs.YtmhaiihjfgfaoaaW.PrintLast Go.Proofs.YtmhaiihjfgfaoaaW.PrintMore Go.Proofs.Ytmhaiihjfgfaoaa.Gl
set_option linter.unusedVariables false
def api_Box_86.f (l0 : List (List (S31))) : Option (Bool) := some (l0.any (fun x => decide (64 < x.length)))
theorem api_Box_86.calls (A0 : Option Addr) (c0 : Nat) (l0 : List (List (S31))) (r : Bool) (w : World) (hr0 : Kd.C (Kd.slice 31 k31) w A0 l0.length l0) (hc0 : l0.length ≤ c0) (h : api_Box_86.f l0 = some r) :
  Calls Try.prog 86 #[.slice A0 l0.length c0, .func (.func 87) #[] #[]] w fun e w' => e = .returned (.bool r) ∧ Below w.heap.size w w' := by
 cases h
 exact cont50_any A0 c0 l0 w hr0 hc0
end Go.Proofs.Ytmhaiihjfgfaoaa.Pr
end
