/- Part 25 of the proof of GliderDives: what the functions compute. No condition. -/
import Derived.Test.YtmhaiihjfgfaoaaGtGliderDives3
import Derived.Test.YtmhaiihjfgfaoaaGtGliderDives23
section
namespace Go.Proofs.Ytmhaiihjfgfaoaa.Pr
open Go.RowKit Go.Proofs.YtmhaiihjfgfaoaaW.PrintWords Go.Proofs.YtmhaiihjfgfaoaaW.PrintLast Go.Proofs.YtmhaiihjfgfaoaaW.PrintMore
attribute [local go_sem] max2_int min2_int max_two min_two max_four
set_option linter.unusedVariables false
set_option linter.unusedSimpArgs false

/-! ### isobathref03_run: function 84 -/
def isobathref03_run.l0 : Nat → Int → List (S33) → List (S31) → Int → Int → Int → Int → Int → Int → Int → Int → List Bool → List (S40) → Int → Int → Int → Int → Int → Int → Int → Int → Int → Int → Int → Option ((List (S31)) × Int × Int)
 | 0, _, _, _, _, _, _, _, _, _, _, _, _, _, _, _, _, _, _, _, _, _, _, _, _ => none
 | k + 1, x3, x4, x13, x14, x501000, x501001, x501002, x501003, x501004, x501005, x501006, x501007, x501008, x502000, x502001, x502002, x502003, x502004, x502005, x502006, x503000, x503001, x503002, x503003 => if x14 < (x4.length : Int) then (if 0 ≤ x14 then ((isobathref03_dive.f k x501000 x501001 x501002 x501003 x501004 x501005 x501006 x501007 x501008 x502000 x502001 x502002 x502003 x502004 x502005 x502006 x503000 x503001 x503002 x503003 (wrap64 (x3 + (wrap64 (x14 * x502001)))) ((rd_T33 x4 x14).f0) ((rd_T33 x4 x14).f1)).bind fun bt504 => (if bt504.2.2.2.2 = 0 then (if x13.length < 4398046511104 then (isobathref03_run.l0 k x3 x4 (x13 ++ [(⟨(⟨bt504.1, bt504.2.1⟩ : S27), (⟨bt504.2.2.1, bt504.2.2.2.1⟩ : S27)⟩ : S31)]) (wrap64 (x14 + 1)) x501000 x501001 x501002 x501003 x501004 x501005 x501006 x501007 x501008 x502000 x502001 x502002 x502003 x502004 x502005 x502006 bt504.1 bt504.2.1 bt504.2.2.1 bt504.2.2.2.1) else (none)) else (some (([] : List (S31)), x14, bt504.2.2.2.2)))) else (none)) else (some (x13, (x4.length : Int), 0))
def isobathref03_run.f (k : Nat) (a0_0 : Int) (a0_1 : Int) (a0_2 : Int) (a0_3 : Int) (a0_4 : Int) (a0_5 : Int) (a0_6 : Int) (l0_7 : List Bool) (l0_8 : List (S40)) (a1_0 : Int) (a1_1 : Int) (a1_2 : Int) (a1_3 : Int) (a1_4 : Int) (a1_5 : Int) (a1_6 : Int) (a2_0 : Int) (a2_1 : Int) (a2_2 : Int) (a2_3 : Int) (a3 : Int) (l4 : List (S33)) : Option ((List (S31)) × Int × Int) := isobathref03_run.l0 k a3 l4 ([] : List (S31)) 0 a0_0 a0_1 a0_2 a0_3 a0_4 a0_5 a0_6 l0_7 l0_8 a1_0 a1_1 a1_2 a1_3 a1_4 a1_5 a1_6 a2_0 a2_1 a2_2 a2_3
def isobathref03_run.T5 : Bool × List (List Nat × List Nat) := (true, [([], []), ([], []), ([], []), ([], []), ([], []), ([], []), ([5], [5]), ([4, 6], [4, 6]), ([3, 7], [3, 7]), ([], []), ([], []), ([9, 10], [9, 10]), ([11], [11]), ([0, 1, 2, 8, 12], [0, 1, 2, 8, 12]), ([13], [13]), ([14], [14]), ([14], [14]), ([], []), ([17, 15, 13, 0, 1, 2, 3, 4, 5, 6, 7, 8, 9, 10, 11, 12, 13, 14, 15, 17], [15, 17]), ([16, 18, 0, 1, 2, 3, 4, 5, 6, 7, 8, 9, 10, 11, 12, 13, 14, 15, 16, 17, 18], [16])])
def isobathref03_run.B5 : List Nat := [0, 0, 0, 0, 0, 0, 32, 112, 248, 0, 0, 1536, 3584, 8191, 16383, 32767, 32767, 0, 196607, 524287]
theorem isobathref03_run.tab5 : rtab .any (opsOf Try.f84 5) = isobathref03_run.T5 := by kernel_rfl
theorem isobathref03_run.bits5 : waitsOk isobathref03_run.T5.2 isobathref03_run.B5 = true := by kernel_rfl
set_option maxHeartbeats 8000000 in
set_option maxRecDepth 100000 in
theorem isobathref03_run.calls (k : Nat) (a0_0 : Int) (a0_1 : Int) (a0_2 : Int) (a0_3 : Int) (a0_4 : Int) (a0_5 : Int) (a0_6 : Int) (A0_7 : Option Addr) (c0_7 : Nat) (l0_7 : List Bool) (A0_8 : Option Addr) (c0_8 : Nat) (l0_8 : List (S40)) (a1_0 : Int) (a1_1 : Int) (a1_2 : Int) (a1_3 : Int) (a1_4 : Int) (a1_5 : Int) (a1_6 : Int) (a2_0 : Int) (a2_1 : Int) (a2_2 : Int) (a2_3 : Int) (a3 : Int) (A4 : Option Addr) (c4 : Nat) (l4 : List (S33)) (r1 : List (S31)) (r2 : Int) (r3 : Int) (w : World) (hr0_7 : Kd.C Kd.bool w A0_7 l0_7.length l0_7) (hc0_7 : l0_7.length ≤ c0_7) (hr0_8 : Kd.C k40 w A0_8 l0_8.length l0_8) (hc0_8 : l0_8.length ≤ c0_8) (hr4 : Kd.C k33 w A4 l4.length l4) (hc4 : l4.length ≤ c4) (h : isobathref03_run.f k a0_0 a0_1 a0_2 a0_3 a0_4 a0_5 a0_6 l0_7 l0_8 a1_0 a1_1 a1_2 a1_3 a1_4 a1_5 a1_6 a2_0 a2_1 a2_2 a2_3 a3 l4 = some (r1, r2, r3)) :
  Calls Try.prog 84 #[.agg #[.int .i64 a0_0, .int .i64 a0_1, .int .i64 a0_2, .int .i64 a0_3, .int .i64 a0_4, .int .i64 a0_5, .int .i64 a0_6, .slice A0_7 l0_7.length c0_7, .slice A0_8 l0_8.length c0_8], .agg #[.int .i64 a1_0, .int .i64 a1_1, .int .i64 a1_2, .int .i64 a1_3, .int .i64 a1_4, .int .i64 a1_5, .int .i64 a1_6], .agg #[.int .i64 a2_0, .int .i64 a2_1, .int .i64 a2_2, .int .i64 a2_3], .int .i64 a3, .slice A4 l4.length c4] w fun e w' => ∃ v0_ : Value, e = .returned (.tuple #[v0_, .int .i64 r2, .int .i64 r3]) ∧ Kd.R k31 31 w' w.heap.size (fun _ => True) v0_ r1 ∧ Below w.heap.size w w' := by
 have hu25 := Try.underlying25
 have hu29 := Try.underlying29
 have hu31 := Try.underlying31
 have hu33 := Try.underlying33
 have HR0_7 := Aside0.mk hr0_7
 have HC0_7 := Aside0.mk hc0_7
 clear hr0_7 hc0_7
 have HR0_8 := Aside0.mk hr0_8
 have HC0_8 := Aside0.mk hc0_8
 clear hr0_8 hc0_8
 have HR4 := Aside0.mk hr4
 have HC4 := Aside0.mk hc4
 clear hr4 hc4
 have HB := Aside0.mk (Below.refl w.heap.size w)
 have H : (isobathref03_run.l0 k a3 l4 ([] : List (S31)) 0 a0_0 a0_1 a0_2 a0_3 a0_4 a0_5 a0_6 l0_7 l0_8 a1_0 a1_1 a1_2 a1_3 a1_4 a1_5 a1_6 a2_0 a2_1 a2_2 a2_3) = some (r1, r2, r3) := h
 clear h
 have H' := Aside0.mk H
 clear H
 go_enter Try.func84, Try.ntmps84
 go_wp2_with (first | ((with_reducible refine gate_dst (N := 5) rfl ?_); refine box_event (by rfl) (N := 5) (by rfl) (cs := #[.int .i64 a0_0, .int .i64 a0_1, .int .i64 a0_2, .int .i64 a0_3, .int .i64 a0_4, .int .i64 a0_5, .int .i64 a0_6, .slice A0_7 l0_7.length c0_7, .slice A0_8 l0_8.length c0_8]) (t := 25) zq5 ?_; intro gb500 hg w6 hbox hb; have BK500 := Aside0.mk (hbox); have GW500 := zgs HB hg; have GE500 := zgs HB hg; replace HB := zbs HB hb; clear hb hbox hg) | ((with_reducible refine gate_dst (N := 6) rfl ?_); refine box_event (by rfl) (N := 6) (by rfl) (cs := #[.int .i64 a1_0, .int .i64 a1_1, .int .i64 a1_2, .int .i64 a1_3, .int .i64 a1_4, .int .i64 a1_5, .int .i64 a1_6]) (t := 29) zq5 ?_; intro gb501 hg w7 hbox hb; have BK501 := Aside0.mk (hbox); have GW501 := zgs HB hg; have GE501 := zgs HB hg; have NB500_501 := znp BK500 hg; have NB501_500 := znq BK500 hg; replace BK500 := zbb BK500 hb; replace HB := zbs HB hb; clear hb hbox hg) | ((with_reducible refine gate_dst (N := 7) rfl ?_); refine box_event (by rfl) (N := 7) (by rfl) (cs := #[.int .i64 a2_0, .int .i64 a2_1, .int .i64 a2_2, .int .i64 a2_3]) (t := 31) zq5 ?_; intro gb502 hg w8 hbox hb; have BK502 := Aside0.mk (hbox); have GW502 := zgs HB hg; have GE502 := zgs HB hg; have NB500_502 := znp BK500 hg; have NB502_500 := znq BK500 hg; have NB501_502 := znp BK501 hg; have NB502_501 := znq BK501 hg; replace BK500 := zbb BK500 hb; replace BK501 := zbb BK501 hb; replace HB := zbs HB hb; clear hb hbox hg))
 go_loopg [13, 14] k (fun kq v13 v14 w' => ∃ (x13_1 : List (S31)) (x14_1 : Int) (x503000_1 : Int) (x503001_1 : Int) (x503002_1 : Int) (x503003_1 : Int), v14 = .int .i64 x14_1 ∧ Aside0 (isobathref03_run.l0 kq a3 l4 x13_1 x14_1 a0_0 a0_1 a0_2 a0_3 a0_4 a0_5 a0_6 l0_7 l0_8 a1_0 a1_1 a1_2 a1_3 a1_4 a1_5 a1_6 x503000_1 x503001_1 x503002_1 x503003_1 = some (r1, r2, r3)) ∧ Aside0 (kq ≤ k) ∧ Aside0 (Kd.R k31 31 w' w.heap.size (fun k_ => k_ ≠ gb502) v13 x13_1) ∧ Aside0 (w'.heap[gb500]? = some (.cells #[.int .i64 a0_0, .int .i64 a0_1, .int .i64 a0_2, .int .i64 a0_3, .int .i64 a0_4, .int .i64 a0_5, .int .i64 a0_6, (.slice A0_7 l0_7.length c0_7), (.slice A0_8 l0_8.length c0_8)] 25 (0, 0))) ∧ Aside0 (w'.heap[gb501]? = some (.cells #[.int .i64 a1_0, .int .i64 a1_1, .int .i64 a1_2, .int .i64 a1_3, .int .i64 a1_4, .int .i64 a1_5, .int .i64 a1_6] 29 (0, 0))) ∧ Aside0 (w'.heap[gb502]? = some (.cells #[.int .i64 x503000_1, .int .i64 x503001_1, .int .i64 x503002_1, .int .i64 x503003_1] 31 (0, 0))) ∧ Aside0 (Below w.heap.size w w'))
 case atStart => exact ⟨(([] : List (S31))), (0), (a2_0), (a2_1), (a2_2), (a2_3), zq2, H', ⟨Nat.le_refl _⟩, ⟨zq10⟩, ⟨by (with_reducible repeat (first | refine blk_drewN ?_ _ | refine blk_drew ?_ | refine blk_alloc ?_ _)); exact BK500.out⟩, ⟨by (with_reducible repeat (first | refine blk_drewN ?_ _ | refine blk_drew ?_ | refine blk_alloc ?_ _)); exact BK501.out⟩, ⟨by (with_reducible repeat (first | refine blk_drewN ?_ _ | refine blk_drew ?_ | refine blk_alloc ?_ _)); exact BK502.out⟩, ⟨zbz⟩⟩
 case round =>
  clear H'
  try clear p2
  try clear c4
  try clear c8
  obtain ⟨x13_1, x14_1, x503000_1, x503001_1, x503002_1, x503003_1, rfl, HA, HK1, HO_13, BK500, BK501, BK502, HB⟩ := hrel
  cases gk with
  | zero => exact absurd HA.out (by simp [isobathref03_run.l0])
  | succ k1 =>
   have H := HA.out
   clear HA
   simp only [isobathref03_run.l0] at H
   by_cases c9 : x14_1 < (l4.length : Int)
   ·rw [if_pos c9] at H
    have c9b0 : decide (x14_1 < (l4.length : Int)) = true := decide_eq_true c9
    clear c9
    by_cases c10 : 0 ≤ x14_1
    ·rw [if_pos c10] at H
     have c10b0 : decide (0 ≤ x14_1) = true := decide_eq_true c10
     clear c10
     replace H := Option.bind_eq_some_iff.mp H
     obtain ⟨⟨t504, t505, t506, t507, t508⟩, A110, H⟩ := H
     replace H : (if t508 = 0 then (if x13_1.length < 4398046511104 then (isobathref03_run.l0 k1 a3 l4 (x13_1 ++ [(⟨(⟨t504, t505⟩ : S27), (⟨t506, t507⟩ : S27)⟩ : S31)]) (wrap64 (x14_1 + 1)) a0_0 a0_1 a0_2 a0_3 a0_4 a0_5 a0_6 l0_7 l0_8 a1_0 a1_1 a1_2 a1_3 a1_4 a1_5 a1_6 t504 t505 t506 t507) else (none)) else (some (([] : List (S31)), x14_1, t508))) = some (r1, r2, r3) := H
     have A11 := Aside0.mk A110
     clear A110
     by_cases c12 : t508 = 0
     ·rw [if_pos c12] at H
      have c12b0 : (t508 == 0) = true := beq_iff_eq.mpr c12
      have c12b1 : (t508 != 0) = false := bne_eq_false_iff_eq.mpr c12
      clear c12
      by_cases c13 : x13_1.length < 4398046511104
      ·rw [if_pos c13] at H
       have LMc13 := Aside0.mk c13
       clear c13
       obtain ⟨y510, hy510⟩ : ∃ y_ : List (S31), y_ = (x13_1 ++ [(⟨(⟨t504, t505⟩ : S27), (⟨t506, t507⟩ : S27)⟩ : S31)]) := ⟨_, rfl⟩
       replace H : (isobathref03_run.l0 k1 a3 l4 y510 (wrap64 (x14_1 + 1)) a0_0 a0_1 a0_2 a0_3 a0_4 a0_5 a0_6 l0_7 l0_8 a1_0 a1_1 a1_2 a1_3 a1_4 a1_5 a1_6 t504 t505 t506 t507) = some (r1, r2, r3) := by first | (rw [hy510]; with_reducible exact H) | (have H2_ := (Option.bind_some _ _).symm.trans H; rw [hy510]; with_reducible exact H2_) | (have H2_ := (Option.bind_some _ _).symm.trans H; with_reducible exact H2_) | with_reducible exact H | (rw [hy510]; exact H) | exact H
       have Ny510 := Aside0.mk hy510
       clear hy510
       have H' := Aside0.mk H
       clear H
       try go_wp2
       replace HO_13 := Aside0.mk (Kd.R_drew HO_13.out)
       replace BK500 := Aside0.mk (blk_drew BK500.out)
       replace BK501 := Aside0.mk (blk_drew BK501.out)
       replace BK502 := Aside0.mk (blk_drew BK502.out)
       replace HB := Aside0.mk (below_drew1 HB.out)
       have p503 : 0 ≤ (x14_1 : Int) := of_decide_eq_true zq4
       have q503 : x14_1 < (l4.length : Int) := of_decide_eq_true zq4
       obtain ⟨ad503, e503, hx503_0, hx503_1⟩ := at_T33 HR4.out x14_1 p503 q503
       have hw503_1 := hx503_1
       have hw503_0 := hx503_0
       cases e503
       replace hx503_0 := (HB.out.cell (World.block_lt_of_cell? w _ hx503_0)).trans hx503_0
       replace hx503_1 := (HB.out.cell (World.block_lt_of_cell? w _ hx503_1)).trans hx503_1
       replace p503 := eq_true p503
       replace q503 := eq_true q503
       refine start_ (n := 20) (S := fun w' => w'.cell? ⟨gb500, 0, none⟩ = some (.int .i64 a0_0) ∧ w'.cell? ⟨gb500, 1, none⟩ = some (.int .i64 a0_1) ∧ w'.cell? ⟨gb500, 2, none⟩ = some (.int .i64 a0_2) ∧ w'.cell? ⟨gb500, 3, none⟩ = some (.int .i64 a0_3) ∧ w'.cell? ⟨gb500, 4, none⟩ = some (.int .i64 a0_4) ∧ w'.cell? ⟨gb500, 5, none⟩ = some (.int .i64 a0_5) ∧ w'.cell? ⟨gb500, 6, none⟩ = some (.int .i64 a0_6) ∧ w'.cell? ⟨gb500, 7, none⟩ = some (.slice A0_7 l0_7.length c0_7) ∧ w'.cell? ⟨gb500, 8, none⟩ = some (.slice A0_8 l0_8.length c0_8) ∧ w'.cell? ⟨gb501, 0, none⟩ = some (.int .i64 a1_0) ∧ w'.cell? ⟨gb501, 1, none⟩ = some (.int .i64 a1_1) ∧ w'.cell? ⟨gb501, 2, none⟩ = some (.int .i64 a1_2) ∧ w'.cell? ⟨gb501, 3, none⟩ = some (.int .i64 a1_3) ∧ w'.cell? ⟨gb501, 4, none⟩ = some (.int .i64 a1_4) ∧ w'.cell? ⟨gb501, 5, none⟩ = some (.int .i64 a1_5) ∧ w'.cell? ⟨gb501, 6, none⟩ = some (.int .i64 a1_6) ∧ w'.cell? ⟨gb502, 0, none⟩ = some (.int .i64 x503000_1) ∧ w'.cell? ⟨gb502, 1, none⟩ = some (.int .i64 x503001_1) ∧ w'.cell? ⟨gb502, 2, none⟩ = some (.int .i64 x503002_1) ∧ w'.cell? ⟨gb502, 3, none⟩ = some (.int .i64 x503003_1) ∧ w'.cell? (ad503.add ((x14_1).toNat * 2)) = some (.int .i64 ((rd_T33 l4 x14_1).f0)) ∧ w'.cell? ⟨(ad503.add ((x14_1).toNat * 2)).block, (ad503.add ((x14_1).toNat * 2)).off + 1, none⟩ = some (.int .i64 ((rd_T33 l4 x14_1).f1))) (ds := []) #[false, false, false, false, false, false, false, false, false, false, false, false, false, false, false, false, false, false, false, false] zq1 rfl rfl ⟨(blk_cell BK500.out 0).trans rfl, (blk_cell BK500.out 1).trans rfl, (blk_cell BK500.out 2).trans rfl, (blk_cell BK500.out 3).trans rfl, (blk_cell BK500.out 4).trans rfl, (blk_cell BK500.out 5).trans rfl, (blk_cell BK500.out 6).trans rfl, (blk_cell BK500.out 7).trans rfl, (blk_cell BK500.out 8).trans rfl, (blk_cell BK501.out 0).trans rfl, (blk_cell BK501.out 1).trans rfl, (blk_cell BK501.out 2).trans rfl, (blk_cell BK501.out 3).trans rfl, (blk_cell BK501.out 4).trans rfl, (blk_cell BK501.out 5).trans rfl, (blk_cell BK501.out 6).trans rfl, zca4 BK502.out ⟨((HB.out.cell (World.block_lt_of_cell? w _ hw503_0)).trans hw503_0), ((HB.out.cell (World.block_lt_of_cell? w _ hw503_1)).trans hw503_1)⟩⟩ (fun hHeld => ?_); refine with_tabW isobathref03_run.tab5 isobathref03_run.bits5 (fun HT_ HW_ => ?_)
       generalize wr.drew = w14 at HO_13 BK500 BK501 BK502 HB hx503_0 hx503_1 hHeld ⊢
       refine zpz (i := 3) (N := some 27) (any_of HT_.out zq1) ?_
       refine zpz (i := 4) (N := some 28) (any_of HT_.out zq1) ?_
       refine zpz (i := 5) (N := some 29) (any_of HT_.out zq1) ?_
       refine zpz (i := 9) (N := some 33) (any_of HT_.out zq1) ?_
       refine zpz (i := 10) (N := some 34) (any_of HT_.out zq1) ?_
       refine zpz (i := 11) (N := some 35) (any_of HT_.out zq1) ?_
       refine ztz (i := 0) (N := some 24) (take_ofW HT_.out HW_.out zq1) hHeld ?_
       refine ztz (i := 1) (N := some 25) (take_ofW HT_.out HW_.out zq1) hHeld ?_
       refine ztz (i := 2) (N := some 26) (take_ofW HT_.out HW_.out zq1) hHeld ?_
       refine ztz (i := 6) (N := some 30) (take_ofW HT_.out HW_.out zq1) hHeld ?_
       refine zpz (i := 7) (N := some 31) (any_of HT_.out zq1) ?_
       refine zpz (i := 8) (N := some 32) (any_of HT_.out zq1) ?_
       refine ztz (i := 12) (N := some 36) (take_ofW HT_.out HW_.out zq1) hHeld ?_
       refine join_ (σ := Nat) 2 #[true, true, true, true, true, true, true, true, true, true, true, true, true, true, true, true, true, true, false, false] (fun s_ => [(37, .tuple #[.agg #[.int .i64 t504, .int .i64 t505, .int .i64 t506, .int .i64 t507], .int .i64 t508]), (15, .pointer (some ⟨s_, 0, none⟩)), (23, .tuple #[.agg #[.int .i64 t504, .int .i64 t505, .int .i64 t506, .int .i64 t507], .int .i64 t508]), (38, .agg #[.int .i64 t504, .int .i64 t505, .int .i64 t506, .int .i64 t507]), (39, .int .i64 t508)]) (fun s_ w' => (w'.cell? ⟨gb500, 0, none⟩ = some (.int .i64 a0_0) ∧ w'.cell? ⟨gb500, 1, none⟩ = some (.int .i64 a0_1) ∧ w'.cell? ⟨gb500, 2, none⟩ = some (.int .i64 a0_2) ∧ w'.cell? ⟨gb500, 3, none⟩ = some (.int .i64 a0_3) ∧ w'.cell? ⟨gb500, 4, none⟩ = some (.int .i64 a0_4) ∧ w'.cell? ⟨gb500, 5, none⟩ = some (.int .i64 a0_5) ∧ w'.cell? ⟨gb500, 6, none⟩ = some (.int .i64 a0_6) ∧ w'.cell? ⟨gb500, 7, none⟩ = some (.slice A0_7 l0_7.length c0_7) ∧ w'.cell? ⟨gb500, 8, none⟩ = some (.slice A0_8 l0_8.length c0_8) ∧ w'.cell? ⟨gb501, 0, none⟩ = some (.int .i64 a1_0) ∧ w'.cell? ⟨gb501, 1, none⟩ = some (.int .i64 a1_1) ∧ w'.cell? ⟨gb501, 2, none⟩ = some (.int .i64 a1_2) ∧ w'.cell? ⟨gb501, 3, none⟩ = some (.int .i64 a1_3) ∧ w'.cell? ⟨gb501, 4, none⟩ = some (.int .i64 a1_4) ∧ w'.cell? ⟨gb501, 5, none⟩ = some (.int .i64 a1_5) ∧ w'.cell? ⟨gb501, 6, none⟩ = some (.int .i64 a1_6) ∧ w'.cell? ⟨gb502, 0, none⟩ = some (.int .i64 x503000_1) ∧ w'.cell? ⟨gb502, 1, none⟩ = some (.int .i64 x503001_1) ∧ w'.cell? ⟨gb502, 2, none⟩ = some (.int .i64 x503002_1) ∧ w'.cell? ⟨gb502, 3, none⟩ = some (.int .i64 x503003_1) ∧ w'.cell? (ad503.add ((x14_1).toNat * 2)) = some (.int .i64 ((rd_T33 l4 x14_1).f0)) ∧ w'.cell? ⟨(ad503.add ((x14_1).toNat * 2)).block, (ad503.add ((x14_1).toNat * 2)).off + 1, none⟩ = some (.int .i64 ((rd_T33 l4 x14_1).f1))) ∧ (Kd.R k31 31 w' w.heap.size (fun k_ => k_ ≠ gb502 ∧ k_ ≠ s_) u13 x13_1) ∧ (w'.heap[gb500]? = some (.cells #[.int .i64 a0_0, .int .i64 a0_1, .int .i64 a0_2, .int .i64 a0_3, .int .i64 a0_4, .int .i64 a0_5, .int .i64 a0_6, .slice A0_7 l0_7.length c0_7, .slice A0_8 l0_8.length c0_8] 25 (0, 0))) ∧ (w'.heap[gb501]? = some (.cells #[.int .i64 a1_0, .int .i64 a1_1, .int .i64 a1_2, .int .i64 a1_3, .int .i64 a1_4, .int .i64 a1_5, .int .i64 a1_6] 29 (0, 0))) ∧ (w'.heap[gb502]? = some (.cells #[.int .i64 x503000_1, .int .i64 x503001_1, .int .i64 x503002_1, .int .i64 x503003_1] 31 (0, 0))) ∧ (w'.heap[s_]? = some (.cells #[.int .i64 0, .int .i64 0, .int .i64 0, .int .i64 0] 31 (0, 0))) ∧ (w.heap.size ≤ s_) ∧ (w.heap.size ≤ s_) ∧ (gb500 ≠ s_) ∧ (s_ ≠ gb500) ∧ (gb501 ≠ s_) ∧ (s_ ≠ gb501) ∧ (gb502 ≠ s_) ∧ (s_ ≠ gb502) ∧ (Below w.heap.size w w')) ?_ ?_
       rotate_left
       ·intro hCont
        refine two_ (i := 13) (j := 17) (Ni := some 37) (Nj := some 15) #[true, true, true, true, true, true, true, true, true, true, true, true, true, true, false, false, false, false, false, false] #[true, true, true, true, true, true, true, true, true, true, true, true, true, false, false, false, false, true, false, false] rfl rfl rfl rfl (two_of HT_.out zq1) (by decide) (by decide) (fun K hK => ?_) (fun K hK => ?_)
        ·skip
         refine goes_ Try.func82 zq1 rfl #[.agg #[.int .i64 a0_0, .int .i64 a0_1, .int .i64 a0_2, .int .i64 a0_3, .int .i64 a0_4, .int .i64 a0_5, .int .i64 a0_6, .slice A0_7 l0_7.length c0_7, .slice A0_8 l0_8.length c0_8], .agg #[.int .i64 a1_0, .int .i64 a1_1, .int .i64 a1_2, .int .i64 a1_3, .int .i64 a1_4, .int .i64 a1_5, .int .i64 a1_6], .agg #[.int .i64 x503000_1, .int .i64 x503001_1, .int .i64 x503002_1, .int .i64 x503003_1], .int .i64 (wrap64 (a3 + (wrap64 (x14_1 * a1_1)))), .agg #[.int .i64 ((rd_T33 l4 x14_1).f0), .int .i64 ((rd_T33 l4 x14_1).f1)]] (by rfl) rfl rfl zq8 ?_
         with_reducible refine (isobathref03_dive.calls k1 a0_0 a0_1 a0_2 a0_3 a0_4 a0_5 a0_6 _ _ l0_7 _ _ l0_8 a1_0 a1_1 a1_2 a1_3 a1_4 a1_5 a1_6 x503000_1 x503001_1 x503002_1 x503003_1 (wrap64 (a3 + (wrap64 (x14_1 * a1_1)))) ((rd_T33 l4 x14_1).f0) ((rd_T33 l4 x14_1).f1) t504 t505 t506 t507 t508 _ ?side1 ?side2 ?side3 ?side4 A11.out).mono ?_
         (case side1 => repeat (first | exact (Kd.C_below HR0_7.out HB.out) | (with_reducible refine Kd.C_alloc ?_ _) | (with_reducible refine Kd.C_drewN ?_ _) | (with_reducible refine Kd.C_drew ?_)))
         (case side2 => exact HC0_7.out)
         (case side3 => repeat (first | exact (Kd.C_below HR0_8.out HB.out) | (with_reducible refine Kd.C_alloc ?_ _) | (with_reducible refine Kd.C_drewN ?_ _) | (with_reducible refine Kd.C_drew ?_)))
         (case side4 => exact HC0_8.out)
         rintro e w15 ⟨rfl, hb⟩
         refine ⟨_, rfl, ?_⟩
         replace HO_13 := Aside0.mk (Kd.R_below zq57 hb)
         replace BK500 := zbb BK500 hb
         replace BK501 := zbb BK501 hb
         replace BK502 := zbb BK502 hb
         replace HB := zbs HB hb
         (try clear hb)
         (try clear hb2)
         (try clear hk)
         (try clear hi)
         refine hK.out _ _ ⟨(blk_cell BK500.out 0).trans rfl, (blk_cell BK500.out 1).trans rfl, (blk_cell BK500.out 2).trans rfl, (blk_cell BK500.out 3).trans rfl, (blk_cell BK500.out 4).trans rfl, (blk_cell BK500.out 5).trans rfl, (blk_cell BK500.out 6).trans rfl, (blk_cell BK500.out 7).trans rfl, (blk_cell BK500.out 8).trans rfl, (blk_cell BK501.out 0).trans rfl, (blk_cell BK501.out 1).trans rfl, (blk_cell BK501.out 2).trans rfl, (blk_cell BK501.out 3).trans rfl, (blk_cell BK501.out 4).trans rfl, (blk_cell BK501.out 5).trans rfl, (blk_cell BK501.out 6).trans rfl, zca4 BK502.out ⟨((HB.out.cell (World.block_lt_of_cell? w _ hw503_0)).trans hw503_0), ((HB.out.cell (World.block_lt_of_cell? w _ hw503_1)).trans hw503_1)⟩⟩ (fun hHeld => ?_)
         clear hK K
         refine norm_ zq58 ?_
         refine zpz (i := 14) (N := some 23) (any_of HT_.out zq1) ?_
         refine zpz (i := 15) (N := some 38) (any_of HT_.out zq1) ?_
         refine zpz (i := 16) (N := some 39) (any_of HT_.out zq1) ?_
         refine one_ (i := 17) (N := some 15) #[true, true, true, true, true, true, true, true, true, true, true, true, true, true, true, true, true, true, false, false] rfl rfl (one_of HT_.out zq1) (by decide) (fun K hK => ?_)
         refine box_step ?hg (N := 15) ?hd (cs := #[.int .i64 0, .int .i64 0, .int .i64 0, .int .i64 0]) (t := 31) ?hr ?_; (case hd => rfl); (case hg => rfl); (case hr => first | (go_simp; done) | (go_simp; rfl))
         intro gb509 hg w16 hbox hb
         have BK509 := Aside0.mk (hbox)
         have GW509 := zgs HB hg
         have GE509 := zgs HB hg
         have NB500_509 := znp BK500 hg
         have NB509_500 := znq BK500 hg
         have NB501_509 := znp BK501 hg
         have NB509_501 := znq BK501 hg
         have NB502_509 := znp BK502 hg
         have NB509_502 := znq BK502 hg
         replace HO_13 := Aside0.mk (Kd.R_below (Kd.R_elderB zq57 gb509 (Nat.le_of_eq hg.symm)) hb)
         replace BK500 := zbb BK500 hb
         replace BK501 := zbb BK501 hb
         replace BK502 := zbb BK502 hb
         replace HB := zbs HB hb
         clear hb hbox hg
         refine hK.out _ _ ⟨(blk_cell BK500.out 0).trans rfl, (blk_cell BK500.out 1).trans rfl, (blk_cell BK500.out 2).trans rfl, (blk_cell BK500.out 3).trans rfl, (blk_cell BK500.out 4).trans rfl, (blk_cell BK500.out 5).trans rfl, (blk_cell BK500.out 6).trans rfl, (blk_cell BK500.out 7).trans rfl, (blk_cell BK500.out 8).trans rfl, (blk_cell BK501.out 0).trans rfl, (blk_cell BK501.out 1).trans rfl, (blk_cell BK501.out 2).trans rfl, (blk_cell BK501.out 3).trans rfl, (blk_cell BK501.out 4).trans rfl, (blk_cell BK501.out 5).trans rfl, (blk_cell BK501.out 6).trans rfl, zca4 BK502.out ⟨((HB.out.cell (World.block_lt_of_cell? w _ hw503_0)).trans hw503_0), ((HB.out.cell (World.block_lt_of_cell? w _ hw503_1)).trans hw503_1)⟩⟩ (fun hHeld => ?_)
         clear hK K
         refine norm_ zq59 ?_
         exact norm_ zq40 (hCont (gb509) _ ⟨hHeld, zq57, (by (with_reducible repeat (first | refine blk_drewN ?_ _ | refine blk_drew ?_ | refine blk_alloc ?_ _)); exact BK500.out), (by (with_reducible repeat (first | refine blk_drewN ?_ _ | refine blk_drew ?_ | refine blk_alloc ?_ _)); exact BK501.out), (by (with_reducible repeat (first | refine blk_drewN ?_ _ | refine blk_drew ?_ | refine blk_alloc ?_ _)); exact BK502.out), (by (with_reducible repeat (first | refine blk_drewN ?_ _ | refine blk_drew ?_ | refine blk_alloc ?_ _)); exact BK509.out), GW509.out, GE509.out, NB500_509.out, NB509_500.out, NB501_509.out, NB509_501.out, NB502_509.out, NB509_502.out, zbz⟩)
        ·skip
         refine box_step ?hg (N := 15) ?hd (cs := #[.int .i64 0, .int .i64 0, .int .i64 0, .int .i64 0]) (t := 31) ?hr ?_; (case hd => rfl); (case hg => rfl); (case hr => first | (go_simp; done) | (go_simp; rfl))
         intro gb509 hg w15 hbox hb
         have BK509 := Aside0.mk (hbox)
         have GW509 := zgs HB hg
         have GE509 := zgs HB hg
         have NB500_509 := znp BK500 hg
         have NB509_500 := znq BK500 hg
         have NB501_509 := znp BK501 hg
         have NB509_501 := znq BK501 hg
         have NB502_509 := znp BK502 hg
         have NB509_502 := znq BK502 hg
         replace HO_13 := Aside0.mk (Kd.R_below (Kd.R_elderB zq57 gb509 (Nat.le_of_eq hg.symm)) hb)
         replace BK500 := zbb BK500 hb
         replace BK501 := zbb BK501 hb
         replace BK502 := zbb BK502 hb
         replace HB := zbs HB hb
         clear hb hbox hg
         refine hK.out _ _ ⟨(blk_cell BK500.out 0).trans rfl, (blk_cell BK500.out 1).trans rfl, (blk_cell BK500.out 2).trans rfl, (blk_cell BK500.out 3).trans rfl, (blk_cell BK500.out 4).trans rfl, (blk_cell BK500.out 5).trans rfl, (blk_cell BK500.out 6).trans rfl, (blk_cell BK500.out 7).trans rfl, (blk_cell BK500.out 8).trans rfl, (blk_cell BK501.out 0).trans rfl, (blk_cell BK501.out 1).trans rfl, (blk_cell BK501.out 2).trans rfl, (blk_cell BK501.out 3).trans rfl, (blk_cell BK501.out 4).trans rfl, (blk_cell BK501.out 5).trans rfl, (blk_cell BK501.out 6).trans rfl, zca4 BK502.out ⟨((HB.out.cell (World.block_lt_of_cell? w _ hw503_0)).trans hw503_0), ((HB.out.cell (World.block_lt_of_cell? w _ hw503_1)).trans hw503_1)⟩⟩ (fun hHeld => ?_)
         clear hK K
         refine norm_ zq59 ?_
         refine one_ (i := 13) (N := some 37) #[true, true, true, true, true, true, true, true, true, true, true, true, true, true, false, false, false, true, false, false] rfl rfl (one_of HT_.out zq1) (by decide) (fun K hK => ?_)
         refine goes_ Try.func82 zq1 rfl #[.agg #[.int .i64 a0_0, .int .i64 a0_1, .int .i64 a0_2, .int .i64 a0_3, .int .i64 a0_4, .int .i64 a0_5, .int .i64 a0_6, .slice A0_7 l0_7.length c0_7, .slice A0_8 l0_8.length c0_8], .agg #[.int .i64 a1_0, .int .i64 a1_1, .int .i64 a1_2, .int .i64 a1_3, .int .i64 a1_4, .int .i64 a1_5, .int .i64 a1_6], .agg #[.int .i64 x503000_1, .int .i64 x503001_1, .int .i64 x503002_1, .int .i64 x503003_1], .int .i64 (wrap64 (a3 + (wrap64 (x14_1 * a1_1)))), .agg #[.int .i64 ((rd_T33 l4 x14_1).f0), .int .i64 ((rd_T33 l4 x14_1).f1)]] (by rfl) rfl rfl zq8 ?_
         with_reducible refine (isobathref03_dive.calls k1 a0_0 a0_1 a0_2 a0_3 a0_4 a0_5 a0_6 _ _ l0_7 _ _ l0_8 a1_0 a1_1 a1_2 a1_3 a1_4 a1_5 a1_6 x503000_1 x503001_1 x503002_1 x503003_1 (wrap64 (a3 + (wrap64 (x14_1 * a1_1)))) ((rd_T33 l4 x14_1).f0) ((rd_T33 l4 x14_1).f1) t504 t505 t506 t507 t508 _ ?side1 ?side2 ?side3 ?side4 A11.out).mono ?_
         (case side1 => repeat (first | exact (Kd.C_below HR0_7.out HB.out) | (with_reducible refine Kd.C_alloc ?_ _) | (with_reducible refine Kd.C_drewN ?_ _) | (with_reducible refine Kd.C_drew ?_)))
         (case side2 => exact HC0_7.out)
         (case side3 => repeat (first | exact (Kd.C_below HR0_8.out HB.out) | (with_reducible refine Kd.C_alloc ?_ _) | (with_reducible refine Kd.C_drewN ?_ _) | (with_reducible refine Kd.C_drew ?_)))
         (case side4 => exact HC0_8.out)
         rintro e w16 ⟨rfl, hb⟩
         refine ⟨_, rfl, ?_⟩
         replace HO_13 := Aside0.mk (Kd.R_below zq57 hb)
         replace BK500 := zbb BK500 hb
         replace BK501 := zbb BK501 hb
         replace BK502 := zbb BK502 hb
         replace BK509 := zbb BK509 hb
         replace HB := zbs HB hb
         (try clear hb)
         (try clear hb2)
         (try clear hk)
         (try clear hi)
         refine hK.out _ _ ⟨(blk_cell BK500.out 0).trans rfl, (blk_cell BK500.out 1).trans rfl, (blk_cell BK500.out 2).trans rfl, (blk_cell BK500.out 3).trans rfl, (blk_cell BK500.out 4).trans rfl, (blk_cell BK500.out 5).trans rfl, (blk_cell BK500.out 6).trans rfl, (blk_cell BK500.out 7).trans rfl, (blk_cell BK500.out 8).trans rfl, (blk_cell BK501.out 0).trans rfl, (blk_cell BK501.out 1).trans rfl, (blk_cell BK501.out 2).trans rfl, (blk_cell BK501.out 3).trans rfl, (blk_cell BK501.out 4).trans rfl, (blk_cell BK501.out 5).trans rfl, (blk_cell BK501.out 6).trans rfl, zca4 BK502.out ⟨((HB.out.cell (World.block_lt_of_cell? w _ hw503_0)).trans hw503_0), ((HB.out.cell (World.block_lt_of_cell? w _ hw503_1)).trans hw503_1)⟩⟩ (fun hHeld => ?_)
         clear hK K
         refine norm_ zq58 ?_
         refine zpz (i := 14) (N := some 23) (any_of HT_.out zq1) ?_
         refine zpz (i := 15) (N := some 38) (any_of HT_.out zq1) ?_
         refine zpz (i := 16) (N := some 39) (any_of HT_.out zq1) ?_
         exact norm_ zq40 (hCont (gb509) _ ⟨hHeld, zq57, (by (with_reducible repeat (first | refine blk_drewN ?_ _ | refine blk_drew ?_ | refine blk_alloc ?_ _)); exact BK500.out), (by (with_reducible repeat (first | refine blk_drewN ?_ _ | refine blk_drew ?_ | refine blk_alloc ?_ _)); exact BK501.out), (by (with_reducible repeat (first | refine blk_drewN ?_ _ | refine blk_drew ?_ | refine blk_alloc ?_ _)); exact BK502.out), (by (with_reducible repeat (first | refine blk_drewN ?_ _ | refine blk_drew ?_ | refine blk_alloc ?_ _)); exact BK509.out), GW509.out, GE509.out, NB500_509.out, NB509_500.out, NB501_509.out, NB509_501.out, NB502_509.out, NB509_502.out, zbz⟩)
       rintro gb509 w17 ⟨hS_, h0_, h1_, h2_, h3_, h4_, h5_, h6_, h7_, h8_, h9_, h10_, h11_, h12_, h13_⟩
       have n0_ : Aside0 (Kd.R k31 31 w17 w.heap.size (fun k_ => k_ ≠ gb502 ∧ k_ ≠ gb509) u13 x13_1) := ⟨h0_⟩
       have n1_ : Aside0 (w17.heap[gb500]? = some (.cells #[.int .i64 a0_0, .int .i64 a0_1, .int .i64 a0_2, .int .i64 a0_3, .int .i64 a0_4, .int .i64 a0_5, .int .i64 a0_6, .slice A0_7 l0_7.length c0_7, .slice A0_8 l0_8.length c0_8] 25 (0, 0))) := ⟨h1_⟩
       have n2_ : Aside0 (w17.heap[gb501]? = some (.cells #[.int .i64 a1_0, .int .i64 a1_1, .int .i64 a1_2, .int .i64 a1_3, .int .i64 a1_4, .int .i64 a1_5, .int .i64 a1_6] 29 (0, 0))) := ⟨h2_⟩
       have n3_ : Aside0 (w17.heap[gb502]? = some (.cells #[.int .i64 x503000_1, .int .i64 x503001_1, .int .i64 x503002_1, .int .i64 x503003_1] 31 (0, 0))) := ⟨h3_⟩
       have n4_ : Aside0 (w17.heap[gb509]? = some (.cells #[.int .i64 0, .int .i64 0, .int .i64 0, .int .i64 0] 31 (0, 0))) := ⟨h4_⟩
       have n5_ : Aside0 (w.heap.size ≤ gb509) := ⟨h5_⟩
       have n6_ : Aside0 (w.heap.size ≤ gb509) := ⟨h6_⟩
       have n7_ : Aside0 (gb500 ≠ gb509) := ⟨h7_⟩
       have n8_ : Aside0 (gb509 ≠ gb500) := ⟨h8_⟩
       have n9_ : Aside0 (gb501 ≠ gb509) := ⟨h9_⟩
       have n10_ : Aside0 (gb509 ≠ gb501) := ⟨h10_⟩
       have n11_ : Aside0 (gb502 ≠ gb509) := ⟨h11_⟩
       have n12_ : Aside0 (gb509 ≠ gb502) := ⟨h12_⟩
       have n13_ : Aside0 (Below w.heap.size w w17) := ⟨h13_⟩
       clear HO_13 BK500 BK501 BK502 HB
       clear h0_ h1_ h2_ h3_ h4_ h5_ h6_ h7_ h8_ h9_ h10_ h11_ h12_ h13_
       have HO_13 := n0_
       have BK500 := n1_
       have BK501 := n2_
       have BK502 := n3_
       have BK509 := n4_
       have GW509 := n5_
       have GE509 := n6_
       have NB500_509 := n7_
       have NB509_500 := n8_
       have NB501_509 := n9_
       have NB509_501 := n10_
       have NB502_509 := n11_
       have NB509_502 := n12_
       have HB := n13_
       clear n0_ n1_ n2_ n3_ n4_ n5_ n6_ n7_ n8_ n9_ n10_ n11_ n12_ n13_
       have hHeld : w17.cell? ⟨gb500, 0, none⟩ = some (.int .i64 a0_0) ∧ w17.cell? ⟨gb500, 1, none⟩ = some (.int .i64 a0_1) ∧ w17.cell? ⟨gb500, 2, none⟩ = some (.int .i64 a0_2) ∧ w17.cell? ⟨gb500, 3, none⟩ = some (.int .i64 a0_3) ∧ w17.cell? ⟨gb500, 4, none⟩ = some (.int .i64 a0_4) ∧ w17.cell? ⟨gb500, 5, none⟩ = some (.int .i64 a0_5) ∧ w17.cell? ⟨gb500, 6, none⟩ = some (.int .i64 a0_6) ∧ w17.cell? ⟨gb500, 7, none⟩ = some (.slice A0_7 l0_7.length c0_7) ∧ w17.cell? ⟨gb500, 8, none⟩ = some (.slice A0_8 l0_8.length c0_8) ∧ w17.cell? ⟨gb501, 0, none⟩ = some (.int .i64 a1_0) ∧ w17.cell? ⟨gb501, 1, none⟩ = some (.int .i64 a1_1) ∧ w17.cell? ⟨gb501, 2, none⟩ = some (.int .i64 a1_2) ∧ w17.cell? ⟨gb501, 3, none⟩ = some (.int .i64 a1_3) ∧ w17.cell? ⟨gb501, 4, none⟩ = some (.int .i64 a1_4) ∧ w17.cell? ⟨gb501, 5, none⟩ = some (.int .i64 a1_5) ∧ w17.cell? ⟨gb501, 6, none⟩ = some (.int .i64 a1_6) ∧ w17.cell? ⟨gb502, 0, none⟩ = some (.int .i64 x503000_1) ∧ w17.cell? ⟨gb502, 1, none⟩ = some (.int .i64 x503001_1) ∧ w17.cell? ⟨gb502, 2, none⟩ = some (.int .i64 x503002_1) ∧ w17.cell? ⟨gb502, 3, none⟩ = some (.int .i64 x503003_1) ∧ w17.cell? (ad503.add ((x14_1).toNat * 2)) = some (.int .i64 ((rd_T33 l4 x14_1).f0)) ∧ w17.cell? ⟨(ad503.add ((x14_1).toNat * 2)).block, (ad503.add ((x14_1).toNat * 2)).off + 1, none⟩ = some (.int .i64 ((rd_T33 l4 x14_1).f1)) := hS_
       refine norm_ (a' := ?_) ?_ ?_
       rotate_left
       ·simp only [putAll, Act.put, List.setIfInBounds_toArray, List.set_cons_zero, List.set_cons_succ]
        rfl
       refine one_ (i := 18) (N := none) #[true, true, true, true, true, true, true, true, true, true, true, true, true, true, true, true, true, true, true, false] rfl rfl (one_of HT_.out zq1) (by decide) (fun K hK => ?_)
       have hs18 : w17.cell? ⟨gb509, 0, none⟩ = some (.int .i64 0) := (blk_cell BK509.out 0).trans rfl
       have hfs18 := blk_frozen BK509.out 0
       have hns18_0 := NB500_509.out
       have hns18_1 := NB501_509.out
       have hns18_2 := NB502_509.out
       have hms18_0 := NB509_500.out
       have hms18_1 := NB509_501.out
       have hms18_2 := NB509_502.out
       have hs19 : w17.cell? ⟨gb509, 1, none⟩ = some (.int .i64 0) := (blk_cell BK509.out 1).trans rfl
       have hfs19 := blk_frozen BK509.out 1
       have hns19_0 := NB500_509.out
       have hns19_1 := NB501_509.out
       have hns19_2 := NB502_509.out
       have hms19_0 := NB509_500.out
       have hms19_1 := NB509_501.out
       have hms19_2 := NB509_502.out
       have hs20 : w17.cell? ⟨gb509, 2, none⟩ = some (.int .i64 0) := (blk_cell BK509.out 2).trans rfl
       have hfs20 := blk_frozen BK509.out 2
       have hns20_0 := NB500_509.out
       have hns20_1 := NB501_509.out
       have hns20_2 := NB502_509.out
       have hms20_0 := NB509_500.out
       have hms20_1 := NB509_501.out
       have hms20_2 := NB509_502.out
       have hs21 : w17.cell? ⟨gb509, 3, none⟩ = some (.int .i64 0) := (blk_cell BK509.out 3).trans rfl
       have hfs21 := blk_frozen BK509.out 3
       have hns21_0 := NB500_509.out
       have hns21_1 := NB501_509.out
       have hns21_2 := NB502_509.out
       have hms21_0 := NB509_500.out
       have hms21_1 := NB509_501.out
       have hms21_2 := NB509_502.out
       refine skip_ (w1 := ?_) (by rfl) rfl ?_ ?_
       rotate_left
       ·go_simp
        rfl
       refine hK.out _ _ ⟨((cell_far (p := ⟨gb509, _, none⟩) NB500_509.out _).trans (((cell_far (p := ⟨gb509, _, none⟩) NB500_509.out _).trans (((cell_far (p := ⟨gb509, _, none⟩) NB500_509.out _).trans (((cell_far (p := ⟨gb509, _, none⟩) NB500_509.out _).trans (hHeld.1)))))))), ((cell_far (p := ⟨gb509, _, none⟩) NB500_509.out _).trans (((cell_far (p := ⟨gb509, _, none⟩) NB500_509.out _).trans (((cell_far (p := ⟨gb509, _, none⟩) NB500_509.out _).trans (((cell_far (p := ⟨gb509, _, none⟩) NB500_509.out _).trans (hHeld.2.1)))))))), ((cell_far (p := ⟨gb509, _, none⟩) NB500_509.out _).trans (((cell_far (p := ⟨gb509, _, none⟩) NB500_509.out _).trans (((cell_far (p := ⟨gb509, _, none⟩) NB500_509.out _).trans (((cell_far (p := ⟨gb509, _, none⟩) NB500_509.out _).trans (hHeld.2.2.1)))))))), ((cell_far (p := ⟨gb509, _, none⟩) NB500_509.out _).trans (((cell_far (p := ⟨gb509, _, none⟩) NB500_509.out _).trans (((cell_far (p := ⟨gb509, _, none⟩) NB500_509.out _).trans (((cell_far (p := ⟨gb509, _, none⟩) NB500_509.out _).trans (hHeld.2.2.2.1)))))))), ((cell_far (p := ⟨gb509, _, none⟩) NB500_509.out _).trans (((cell_far (p := ⟨gb509, _, none⟩) NB500_509.out _).trans (((cell_far (p := ⟨gb509, _, none⟩) NB500_509.out _).trans (((cell_far (p := ⟨gb509, _, none⟩) NB500_509.out _).trans (hHeld.2.2.2.2.1)))))))), ((cell_far (p := ⟨gb509, _, none⟩) NB500_509.out _).trans (((cell_far (p := ⟨gb509, _, none⟩) NB500_509.out _).trans (((cell_far (p := ⟨gb509, _, none⟩) NB500_509.out _).trans (((cell_far (p := ⟨gb509, _, none⟩) NB500_509.out _).trans (hHeld.2.2.2.2.2.1)))))))), ((cell_far (p := ⟨gb509, _, none⟩) NB500_509.out _).trans (((cell_far (p := ⟨gb509, _, none⟩) NB500_509.out _).trans (((cell_far (p := ⟨gb509, _, none⟩) NB500_509.out _).trans (((cell_far (p := ⟨gb509, _, none⟩) NB500_509.out _).trans (hHeld.2.2.2.2.2.2.1)))))))), ((cell_far (p := ⟨gb509, _, none⟩) NB500_509.out _).trans (((cell_far (p := ⟨gb509, _, none⟩) NB500_509.out _).trans (((cell_far (p := ⟨gb509, _, none⟩) NB500_509.out _).trans (((cell_far (p := ⟨gb509, _, none⟩) NB500_509.out _).trans (hHeld.2.2.2.2.2.2.2.1)))))))), ((cell_far (p := ⟨gb509, _, none⟩) NB500_509.out _).trans (((cell_far (p := ⟨gb509, _, none⟩) NB500_509.out _).trans (((cell_far (p := ⟨gb509, _, none⟩) NB500_509.out _).trans (((cell_far (p := ⟨gb509, _, none⟩) NB500_509.out _).trans (hHeld.2.2.2.2.2.2.2.2.1)))))))), ((cell_far (p := ⟨gb509, _, none⟩) NB501_509.out _).trans (((cell_far (p := ⟨gb509, _, none⟩) NB501_509.out _).trans (((cell_far (p := ⟨gb509, _, none⟩) NB501_509.out _).trans (((cell_far (p := ⟨gb509, _, none⟩) NB501_509.out _).trans (hHeld.2.2.2.2.2.2.2.2.2.1)))))))), ((cell_far (p := ⟨gb509, _, none⟩) NB501_509.out _).trans (((cell_far (p := ⟨gb509, _, none⟩) NB501_509.out _).trans (((cell_far (p := ⟨gb509, _, none⟩) NB501_509.out _).trans (((cell_far (p := ⟨gb509, _, none⟩) NB501_509.out _).trans (hHeld.2.2.2.2.2.2.2.2.2.2.1)))))))), ((cell_far (p := ⟨gb509, _, none⟩) NB501_509.out _).trans (((cell_far (p := ⟨gb509, _, none⟩) NB501_509.out _).trans (((cell_far (p := ⟨gb509, _, none⟩) NB501_509.out _).trans (((cell_far (p := ⟨gb509, _, none⟩) NB501_509.out _).trans (hHeld.2.2.2.2.2.2.2.2.2.2.2.1)))))))), ((cell_far (p := ⟨gb509, _, none⟩) NB501_509.out _).trans (((cell_far (p := ⟨gb509, _, none⟩) NB501_509.out _).trans (((cell_far (p := ⟨gb509, _, none⟩) NB501_509.out _).trans (((cell_far (p := ⟨gb509, _, none⟩) NB501_509.out _).trans (hHeld.2.2.2.2.2.2.2.2.2.2.2.2.1)))))))), ((cell_far (p := ⟨gb509, _, none⟩) NB501_509.out _).trans (((cell_far (p := ⟨gb509, _, none⟩) NB501_509.out _).trans (((cell_far (p := ⟨gb509, _, none⟩) NB501_509.out _).trans (((cell_far (p := ⟨gb509, _, none⟩) NB501_509.out _).trans (hHeld.2.2.2.2.2.2.2.2.2.2.2.2.2.1)))))))), ((cell_far (p := ⟨gb509, _, none⟩) NB501_509.out _).trans (((cell_far (p := ⟨gb509, _, none⟩) NB501_509.out _).trans (((cell_far (p := ⟨gb509, _, none⟩) NB501_509.out _).trans (((cell_far (p := ⟨gb509, _, none⟩) NB501_509.out _).trans (hHeld.2.2.2.2.2.2.2.2.2.2.2.2.2.2.1)))))))), ((cell_far (p := ⟨gb509, _, none⟩) NB501_509.out _).trans (((cell_far (p := ⟨gb509, _, none⟩) NB501_509.out _).trans (((cell_far (p := ⟨gb509, _, none⟩) NB501_509.out _).trans (((cell_far (p := ⟨gb509, _, none⟩) NB501_509.out _).trans (hHeld.2.2.2.2.2.2.2.2.2.2.2.2.2.2.2.1)))))))), ((cell_far (p := ⟨gb509, _, none⟩) NB502_509.out _).trans (((cell_far (p := ⟨gb509, _, none⟩) NB502_509.out _).trans (((cell_far (p := ⟨gb509, _, none⟩) NB502_509.out _).trans (((cell_far (p := ⟨gb509, _, none⟩) NB502_509.out _).trans (hHeld.2.2.2.2.2.2.2.2.2.2.2.2.2.2.2.2.1)))))))), ((cell_far (p := ⟨gb509, _, none⟩) NB502_509.out _).trans (((cell_far (p := ⟨gb509, _, none⟩) NB502_509.out _).trans (((cell_far (p := ⟨gb509, _, none⟩) NB502_509.out _).trans (((cell_far (p := ⟨gb509, _, none⟩) NB502_509.out _).trans (hHeld.2.2.2.2.2.2.2.2.2.2.2.2.2.2.2.2.2.1)))))))), ((cell_far (p := ⟨gb509, _, none⟩) NB502_509.out _).trans (((cell_far (p := ⟨gb509, _, none⟩) NB502_509.out _).trans (((cell_far (p := ⟨gb509, _, none⟩) NB502_509.out _).trans (((cell_far (p := ⟨gb509, _, none⟩) NB502_509.out _).trans (hHeld.2.2.2.2.2.2.2.2.2.2.2.2.2.2.2.2.2.2.1)))))))), ((cell_far (p := ⟨gb509, _, none⟩) NB502_509.out _).trans (((cell_far (p := ⟨gb509, _, none⟩) NB502_509.out _).trans (((cell_far (p := ⟨gb509, _, none⟩) NB502_509.out _).trans (((cell_far (p := ⟨gb509, _, none⟩) NB502_509.out _).trans (hHeld.2.2.2.2.2.2.2.2.2.2.2.2.2.2.2.2.2.2.2.1)))))))), ((cell_far (p := ⟨gb509, _, none⟩) zq60 _).trans (((cell_far (p := ⟨gb509, _, none⟩) zq60 _).trans (((cell_far (p := ⟨gb509, _, none⟩) zq60 _).trans (((cell_far (p := ⟨gb509, _, none⟩) zq60 _).trans (hHeld.2.2.2.2.2.2.2.2.2.2.2.2.2.2.2.2.2.2.2.2.1)))))))), ((cell_far (p := ⟨gb509, _, none⟩) zq61 _).trans (((cell_far (p := ⟨gb509, _, none⟩) zq61 _).trans (((cell_far (p := ⟨gb509, _, none⟩) zq61 _).trans (((cell_far (p := ⟨gb509, _, none⟩) zq61 _).trans (hHeld.2.2.2.2.2.2.2.2.2.2.2.2.2.2.2.2.2.2.2.2.2))))))))⟩ (fun hHeld => ?_)
       clear hK K
       refine zpz (i := 19) (N := some 16) (any_of HT_.out zq1) ?_
       refine done_ (done_of HT_.out zq1) ?_
       have hnb22 := NB509_500.out
       have hnc22 := NB500_509.out
       have hnb23 := NB509_501.out
       have hnc23 := NB501_509.out
       have hnb24 := NB509_502.out
       have hnc24 := NB502_509.out
       obtain ⟨hcz25_0, hcz25_1, hcz25_2, hcz25_3, hfz25_0, hfz25_1, hfz25_2, hfz25_3⟩ := zce4 BK509.out
       have hnb26 := NB502_500.out
       have hnc26 := NB500_502.out
       have hnb27 := NB502_501.out
       have hnc27 := NB501_502.out
       obtain ⟨hcz28_0, hcz28_1, hcz28_2, hcz28_3, hfz28_0, hfz28_1, hfz28_2, hfz28_3⟩ := zce4 BK502.out
       try go_wp2_with (first | ((with_reducible refine gate_builtin (b := .append) (xs := #[.tmp 45, .tmp 47]) rfl ?_); at_builtin; refine Kd.R_append k31 (w0 := w) w.heap.size rfl (.tmp 45) (.tmp 47) 50 31 (.agg #[(.int .i64 0), (.int .i64 0), (.int .i64 0), (.int .i64 0)]) 32 rfl Try.underlying50 info31 rfl (by decide) (by omega) u13 x13_1 (⟨(⟨t504, t505⟩ : S27), (⟨t506, t507⟩ : S27)⟩ : S31) [.int .i64 t504, .int .i64 t505, .int .i64 t506, .int .i64 t507] (fun k_ => k_ ≠ gb502 ∧ k_ ≠ gb509) (fun _ => False) rfl zq5 ?aP (fun _ hk => hk.elim) ?aF ?aO ?aB ?aS ?aL ?_; (case aP => exact k31_mkM _ _ _ (⟨(⟨t504, t505⟩ : S27), (⟨t506, t507⟩ : S27)⟩ : S31)); (case aB => exact zbz); (case aF => exact (fun k_ hk => ⟨Kd.freshB (g := gb502) (o := .cells #[.int .i64 t504, .int .i64 t505, .int .i64 t506, .int .i64 t507] 31 (0, 0)) (by (with_reducible repeat (first | refine blk_drewN ?_ _ | refine blk_drew ?_ | refine blk_alloc ?_ _)); refine blk_put (cs := #[.int .i64 t504, .int .i64 t505, .int .i64 t506, .int .i64 x503003_1]) ?_ 3 _ rfl; (with_reducible repeat (first | refine blk_drewN ?_ _ | refine blk_drew ?_ | refine blk_alloc ?_ _)); refine blk_put (cs := #[.int .i64 t504, .int .i64 t505, .int .i64 x503002_1, .int .i64 x503003_1]) ?_ 2 _ rfl; (with_reducible repeat (first | refine blk_drewN ?_ _ | refine blk_drew ?_ | refine blk_alloc ?_ _)); refine blk_put (cs := #[.int .i64 t504, .int .i64 x503001_1, .int .i64 x503002_1, .int .i64 x503003_1]) ?_ 1 _ rfl; (with_reducible repeat (first | refine blk_drewN ?_ _ | refine blk_drew ?_ | refine blk_alloc ?_ _)); refine blk_put (cs := #[.int .i64 x503000_1, .int .i64 x503001_1, .int .i64 x503002_1, .int .i64 x503003_1]) ?_ 0 _ rfl; (with_reducible repeat (first | refine blk_drewN ?_ _ | refine blk_drew ?_ | refine blk_alloc ?_ _)); refine blk_far ?_ NB502_509.out _; (with_reducible repeat (first | refine blk_drewN ?_ _ | refine blk_drew ?_ | refine blk_alloc ?_ _)); refine blk_far ?_ NB502_509.out _; (with_reducible repeat (first | refine blk_drewN ?_ _ | refine blk_drew ?_ | refine blk_alloc ?_ _)); refine blk_far ?_ NB502_509.out _; (with_reducible repeat (first | refine blk_drewN ?_ _ | refine blk_drew ?_ | refine blk_alloc ?_ _)); refine blk_far ?_ NB502_509.out _; (with_reducible repeat (first | refine blk_drewN ?_ _ | refine blk_drew ?_ | refine blk_alloc ?_ _)); exact BK502.out) k_ hk, Kd.freshB (g := gb509) (o := .cells #[.int .i64 t504, .int .i64 t505, .int .i64 t506, .int .i64 t507] 31 (0, 0)) (by (with_reducible repeat (first | refine blk_drewN ?_ _ | refine blk_drew ?_ | refine blk_alloc ?_ _)); refine blk_far ?_ NB509_502.out _; (with_reducible repeat (first | refine blk_drewN ?_ _ | refine blk_drew ?_ | refine blk_alloc ?_ _)); refine blk_far ?_ NB509_502.out _; (with_reducible repeat (first | refine blk_drewN ?_ _ | refine blk_drew ?_ | refine blk_alloc ?_ _)); refine blk_far ?_ NB509_502.out _; (with_reducible repeat (first | refine blk_drewN ?_ _ | refine blk_drew ?_ | refine blk_alloc ?_ _)); refine blk_far ?_ NB509_502.out _; (with_reducible repeat (first | refine blk_drewN ?_ _ | refine blk_drew ?_ | refine blk_alloc ?_ _)); refine blk_put (cs := #[.int .i64 t504, .int .i64 t505, .int .i64 t506, .int .i64 0]) ?_ 3 _ rfl; (with_reducible repeat (first | refine blk_drewN ?_ _ | refine blk_drew ?_ | refine blk_alloc ?_ _)); refine blk_put (cs := #[.int .i64 t504, .int .i64 t505, .int .i64 0, .int .i64 0]) ?_ 2 _ rfl; (with_reducible repeat (first | refine blk_drewN ?_ _ | refine blk_drew ?_ | refine blk_alloc ?_ _)); refine blk_put (cs := #[.int .i64 t504, .int .i64 0, .int .i64 0, .int .i64 0]) ?_ 1 _ rfl; (with_reducible repeat (first | refine blk_drewN ?_ _ | refine blk_drew ?_ | refine blk_alloc ?_ _)); refine blk_put (cs := #[.int .i64 0, .int .i64 0, .int .i64 0, .int .i64 0]) ?_ 0 _ rfl; (with_reducible repeat (first | refine blk_drewN ?_ _ | refine blk_drew ?_ | refine blk_alloc ?_ _)); exact BK509.out) k_ hk⟩)); (case aO => exact (by (with_reducible repeat (first | apply Kd.R_alloc | apply Kd.R_drewN | apply Kd.R_drew)); exact Kd.R_mono (Kd.R_far (p := ⟨gb502, 3, none⟩) (Kd.R_far (p := ⟨gb502, 2, none⟩) (Kd.R_far (p := ⟨gb502, 1, none⟩) (Kd.R_far (p := ⟨gb502, 0, none⟩) (Kd.R_far (p := ⟨gb509, 3, none⟩) (Kd.R_far (p := ⟨gb509, 2, none⟩) (Kd.R_far (p := ⟨gb509, 1, none⟩) (Kd.R_far (p := ⟨gb509, 0, none⟩) (Kd.R_mono (Kd.R_mono HO_13.out (fun k_ hk => (⟨hk, hk.2⟩ : _ ∧ k_ ≠ gb509))) (fun k_ hk => (⟨hk, hk.1.1⟩ : _ ∧ k_ ≠ gb502))) (fun _ hk => hk.1.2) (.int .i64 t504)) (fun _ hk => hk.1.2) (.int .i64 t505)) (fun _ hk => hk.1.2) (.int .i64 t506)) (fun _ hk => hk.1.2) (.int .i64 t507)) (fun _ hk => hk.2) (.int .i64 t504)) (fun _ hk => hk.2) (.int .i64 t505)) (fun _ hk => hk.2) (.int .i64 t506)) (fun _ hk => hk.2) (.int .i64 t507)) (fun _ hk => ⟨hk.1.1.1, hk.1.1.2⟩))); (case aS => exact (below_size zbz)); (case aL => have := LMc13.out; omega); intro v511 w29 ho hb hg hat; rw [← Ny510.out] at ho; have n0_ := Aside0.mk (blk_grown (g := gb500) (o := .cells #[.int .i64 a0_0, .int .i64 a0_1, .int .i64 a0_2, .int .i64 a0_3, .int .i64 a0_4, .int .i64 a0_5, .int .i64 a0_6, .slice A0_7 l0_7.length c0_7, .slice A0_8 l0_8.length c0_8] 25 (0, 0)) (by (with_reducible repeat (first | refine blk_drewN ?_ _ | refine blk_drew ?_ | refine blk_alloc ?_ _)); refine blk_far ?_ NB500_502.out _; (with_reducible repeat (first | refine blk_drewN ?_ _ | refine blk_drew ?_ | refine blk_alloc ?_ _)); refine blk_far ?_ NB500_502.out _; (with_reducible repeat (first | refine blk_drewN ?_ _ | refine blk_drew ?_ | refine blk_alloc ?_ _)); refine blk_far ?_ NB500_502.out _; (with_reducible repeat (first | refine blk_drewN ?_ _ | refine blk_drew ?_ | refine blk_alloc ?_ _)); refine blk_far ?_ NB500_502.out _; (with_reducible repeat (first | refine blk_drewN ?_ _ | refine blk_drew ?_ | refine blk_alloc ?_ _)); refine blk_far ?_ NB500_509.out _; (with_reducible repeat (first | refine blk_drewN ?_ _ | refine blk_drew ?_ | refine blk_alloc ?_ _)); refine blk_far ?_ NB500_509.out _; (with_reducible repeat (first | refine blk_drewN ?_ _ | refine blk_drew ?_ | refine blk_alloc ?_ _)); refine blk_far ?_ NB500_509.out _; (with_reducible repeat (first | refine blk_drewN ?_ _ | refine blk_drew ?_ | refine blk_alloc ?_ _)); refine blk_far ?_ NB500_509.out _; (with_reducible repeat (first | refine blk_drewN ?_ _ | refine blk_drew ?_ | refine blk_alloc ?_ _)); exact BK500.out) hg (Kd.R_ne HO_13.out BK500.out (by decide))); have n1_ := Aside0.mk (blk_grown (g := gb501) (o := .cells #[.int .i64 a1_0, .int .i64 a1_1, .int .i64 a1_2, .int .i64 a1_3, .int .i64 a1_4, .int .i64 a1_5, .int .i64 a1_6] 29 (0, 0)) (by (with_reducible repeat (first | refine blk_drewN ?_ _ | refine blk_drew ?_ | refine blk_alloc ?_ _)); refine blk_far ?_ NB501_502.out _; (with_reducible repeat (first | refine blk_drewN ?_ _ | refine blk_drew ?_ | refine blk_alloc ?_ _)); refine blk_far ?_ NB501_502.out _; (with_reducible repeat (first | refine blk_drewN ?_ _ | refine blk_drew ?_ | refine blk_alloc ?_ _)); refine blk_far ?_ NB501_502.out _; (with_reducible repeat (first | refine blk_drewN ?_ _ | refine blk_drew ?_ | refine blk_alloc ?_ _)); refine blk_far ?_ NB501_502.out _; (with_reducible repeat (first | refine blk_drewN ?_ _ | refine blk_drew ?_ | refine blk_alloc ?_ _)); refine blk_far ?_ NB501_509.out _; (with_reducible repeat (first | refine blk_drewN ?_ _ | refine blk_drew ?_ | refine blk_alloc ?_ _)); refine blk_far ?_ NB501_509.out _; (with_reducible repeat (first | refine blk_drewN ?_ _ | refine blk_drew ?_ | refine blk_alloc ?_ _)); refine blk_far ?_ NB501_509.out _; (with_reducible repeat (first | refine blk_drewN ?_ _ | refine blk_drew ?_ | refine blk_alloc ?_ _)); refine blk_far ?_ NB501_509.out _; (with_reducible repeat (first | refine blk_drewN ?_ _ | refine blk_drew ?_ | refine blk_alloc ?_ _)); exact BK501.out) hg (Kd.R_ne HO_13.out BK501.out (by decide))); have n2_ := Aside0.mk (blk_grown (g := gb502) (o := .cells #[.int .i64 t504, .int .i64 t505, .int .i64 t506, .int .i64 t507] 31 (0, 0)) (by (with_reducible repeat (first | refine blk_drewN ?_ _ | refine blk_drew ?_ | refine blk_alloc ?_ _)); refine blk_put (cs := #[.int .i64 t504, .int .i64 t505, .int .i64 t506, .int .i64 x503003_1]) ?_ 3 _ rfl; (with_reducible repeat (first | refine blk_drewN ?_ _ | refine blk_drew ?_ | refine blk_alloc ?_ _)); refine blk_put (cs := #[.int .i64 t504, .int .i64 t505, .int .i64 x503002_1, .int .i64 x503003_1]) ?_ 2 _ rfl; (with_reducible repeat (first | refine blk_drewN ?_ _ | refine blk_drew ?_ | refine blk_alloc ?_ _)); refine blk_put (cs := #[.int .i64 t504, .int .i64 x503001_1, .int .i64 x503002_1, .int .i64 x503003_1]) ?_ 1 _ rfl; (with_reducible repeat (first | refine blk_drewN ?_ _ | refine blk_drew ?_ | refine blk_alloc ?_ _)); refine blk_put (cs := #[.int .i64 x503000_1, .int .i64 x503001_1, .int .i64 x503002_1, .int .i64 x503003_1]) ?_ 0 _ rfl; (with_reducible repeat (first | refine blk_drewN ?_ _ | refine blk_drew ?_ | refine blk_alloc ?_ _)); refine blk_far ?_ NB502_509.out _; (with_reducible repeat (first | refine blk_drewN ?_ _ | refine blk_drew ?_ | refine blk_alloc ?_ _)); refine blk_far ?_ NB502_509.out _; (with_reducible repeat (first | refine blk_drewN ?_ _ | refine blk_drew ?_ | refine blk_alloc ?_ _)); refine blk_far ?_ NB502_509.out _; (with_reducible repeat (first | refine blk_drewN ?_ _ | refine blk_drew ?_ | refine blk_alloc ?_ _)); refine blk_far ?_ NB502_509.out _; (with_reducible repeat (first | refine blk_drewN ?_ _ | refine blk_drew ?_ | refine blk_alloc ?_ _)); exact BK502.out) hg (Kd.R_away HO_13.out (fun _ hk => hk.1))); have n3_ := Aside0.mk (blk_grown (g := gb509) (o := .cells #[.int .i64 t504, .int .i64 t505, .int .i64 t506, .int .i64 t507] 31 (0, 0)) (by (with_reducible repeat (first | refine blk_drewN ?_ _ | refine blk_drew ?_ | refine blk_alloc ?_ _)); refine blk_far ?_ NB509_502.out _; (with_reducible repeat (first | refine blk_drewN ?_ _ | refine blk_drew ?_ | refine blk_alloc ?_ _)); refine blk_far ?_ NB509_502.out _; (with_reducible repeat (first | refine blk_drewN ?_ _ | refine blk_drew ?_ | refine blk_alloc ?_ _)); refine blk_far ?_ NB509_502.out _; (with_reducible repeat (first | refine blk_drewN ?_ _ | refine blk_drew ?_ | refine blk_alloc ?_ _)); refine blk_far ?_ NB509_502.out _; (with_reducible repeat (first | refine blk_drewN ?_ _ | refine blk_drew ?_ | refine blk_alloc ?_ _)); refine blk_put (cs := #[.int .i64 t504, .int .i64 t505, .int .i64 t506, .int .i64 0]) ?_ 3 _ rfl; (with_reducible repeat (first | refine blk_drewN ?_ _ | refine blk_drew ?_ | refine blk_alloc ?_ _)); refine blk_put (cs := #[.int .i64 t504, .int .i64 t505, .int .i64 0, .int .i64 0]) ?_ 2 _ rfl; (with_reducible repeat (first | refine blk_drewN ?_ _ | refine blk_drew ?_ | refine blk_alloc ?_ _)); refine blk_put (cs := #[.int .i64 t504, .int .i64 0, .int .i64 0, .int .i64 0]) ?_ 1 _ rfl; (with_reducible repeat (first | refine blk_drewN ?_ _ | refine blk_drew ?_ | refine blk_alloc ?_ _)); refine blk_put (cs := #[.int .i64 0, .int .i64 0, .int .i64 0, .int .i64 0]) ?_ 0 _ rfl; (with_reducible repeat (first | refine blk_drewN ?_ _ | refine blk_drew ?_ | refine blk_alloc ?_ _)); exact BK509.out) hg (Kd.R_away HO_13.out (fun _ hk => hk.2))); have n4_ := Aside0.mk (hb); have n5_ := Aside0.mk (ho); clear BK500; clear BK501; clear BK502; clear BK509; clear HB; clear HO_13; have BK500 := n0_; have BK501 := n1_; have BK502 := n2_; have BK509 := n3_; have HB := n4_; have HO512 := n5_; clear n0_ n1_ n2_ n3_ n4_ n5_; clear ho hb hg hat))
       go_roundg k1
       case measure => have := HK1.out; omega
       case rel => exact ⟨(y510), (wrap64 (x14_1 + 1)), (t504), (t505), (t506), (t507), zq2, H', ⟨zq7⟩, ⟨by (with_reducible repeat (first | apply Kd.R_alloc | apply Kd.R_drewN | apply Kd.R_drew)); exact Kd.R_mono HO512.out (fun _ hk => hk.1)⟩, ⟨by (with_reducible repeat (first | refine blk_drewN ?_ _ | refine blk_drew ?_ | refine blk_alloc ?_ _)); exact BK500.out⟩, ⟨by (with_reducible repeat (first | refine blk_drewN ?_ _ | refine blk_drew ?_ | refine blk_alloc ?_ _)); exact BK501.out⟩, ⟨by (with_reducible repeat (first | refine blk_drewN ?_ _ | refine blk_drew ?_ | refine blk_alloc ?_ _)); exact BK502.out⟩, ⟨zbz⟩⟩
      ·rw [if_neg c13] at H
       exact absurd H (by simp)
     ·rw [if_neg c12] at H
      have c12b0 : (t508 == 0) = false := beq_eq_false_iff_ne.mpr c12
      have c12b1 : (t508 != 0) = true := bne_iff_ne.mpr c12
      simp only [Option.some.injEq, Prod.mk.injEq] at H
      obtain ⟨rfl, rfl, rfl⟩ := H
      try go_wp2
      replace HO_13 := Aside0.mk (Kd.R_drew HO_13.out)
      replace BK500 := Aside0.mk (blk_drew BK500.out)
      replace BK501 := Aside0.mk (blk_drew BK501.out)
      replace BK502 := Aside0.mk (blk_drew BK502.out)
      replace HB := Aside0.mk (below_drew1 HB.out)
      have p503 : 0 ≤ (x14_1 : Int) := of_decide_eq_true zq4
      have q503 : x14_1 < (l4.length : Int) := of_decide_eq_true zq4
      obtain ⟨ad503, e503, hx503_0, hx503_1⟩ := at_T33 HR4.out x14_1 p503 q503
      have hw503_1 := hx503_1
      have hw503_0 := hx503_0
      cases e503
      replace hx503_0 := (HB.out.cell (World.block_lt_of_cell? w _ hx503_0)).trans hx503_0
      replace hx503_1 := (HB.out.cell (World.block_lt_of_cell? w _ hx503_1)).trans hx503_1
      replace p503 := eq_true p503
      replace q503 := eq_true q503
      refine start_ (n := 20) (S := fun w' => w'.cell? ⟨gb500, 0, none⟩ = some (.int .i64 a0_0) ∧ w'.cell? ⟨gb500, 1, none⟩ = some (.int .i64 a0_1) ∧ w'.cell? ⟨gb500, 2, none⟩ = some (.int .i64 a0_2) ∧ w'.cell? ⟨gb500, 3, none⟩ = some (.int .i64 a0_3) ∧ w'.cell? ⟨gb500, 4, none⟩ = some (.int .i64 a0_4) ∧ w'.cell? ⟨gb500, 5, none⟩ = some (.int .i64 a0_5) ∧ w'.cell? ⟨gb500, 6, none⟩ = some (.int .i64 a0_6) ∧ w'.cell? ⟨gb500, 7, none⟩ = some (.slice A0_7 l0_7.length c0_7) ∧ w'.cell? ⟨gb500, 8, none⟩ = some (.slice A0_8 l0_8.length c0_8) ∧ w'.cell? ⟨gb501, 0, none⟩ = some (.int .i64 a1_0) ∧ w'.cell? ⟨gb501, 1, none⟩ = some (.int .i64 a1_1) ∧ w'.cell? ⟨gb501, 2, none⟩ = some (.int .i64 a1_2) ∧ w'.cell? ⟨gb501, 3, none⟩ = some (.int .i64 a1_3) ∧ w'.cell? ⟨gb501, 4, none⟩ = some (.int .i64 a1_4) ∧ w'.cell? ⟨gb501, 5, none⟩ = some (.int .i64 a1_5) ∧ w'.cell? ⟨gb501, 6, none⟩ = some (.int .i64 a1_6) ∧ w'.cell? ⟨gb502, 0, none⟩ = some (.int .i64 x503000_1) ∧ w'.cell? ⟨gb502, 1, none⟩ = some (.int .i64 x503001_1) ∧ w'.cell? ⟨gb502, 2, none⟩ = some (.int .i64 x503002_1) ∧ w'.cell? ⟨gb502, 3, none⟩ = some (.int .i64 x503003_1) ∧ w'.cell? (ad503.add ((x14_1).toNat * 2)) = some (.int .i64 ((rd_T33 l4 x14_1).f0)) ∧ w'.cell? ⟨(ad503.add ((x14_1).toNat * 2)).block, (ad503.add ((x14_1).toNat * 2)).off + 1, none⟩ = some (.int .i64 ((rd_T33 l4 x14_1).f1))) (ds := []) #[false, false, false, false, false, false, false, false, false, false, false, false, false, false, false, false, false, false, false, false] zq1 rfl rfl ⟨(blk_cell BK500.out 0).trans rfl, (blk_cell BK500.out 1).trans rfl, (blk_cell BK500.out 2).trans rfl, (blk_cell BK500.out 3).trans rfl, (blk_cell BK500.out 4).trans rfl, (blk_cell BK500.out 5).trans rfl, (blk_cell BK500.out 6).trans rfl, (blk_cell BK500.out 7).trans rfl, (blk_cell BK500.out 8).trans rfl, (blk_cell BK501.out 0).trans rfl, (blk_cell BK501.out 1).trans rfl, (blk_cell BK501.out 2).trans rfl, (blk_cell BK501.out 3).trans rfl, (blk_cell BK501.out 4).trans rfl, (blk_cell BK501.out 5).trans rfl, (blk_cell BK501.out 6).trans rfl, zca4 BK502.out ⟨((HB.out.cell (World.block_lt_of_cell? w _ hw503_0)).trans hw503_0), ((HB.out.cell (World.block_lt_of_cell? w _ hw503_1)).trans hw503_1)⟩⟩ (fun hHeld => ?_); refine with_tabW isobathref03_run.tab5 isobathref03_run.bits5 (fun HT_ HW_ => ?_)
      generalize wr.drew = w30 at HO_13 BK500 BK501 BK502 HB hx503_0 hx503_1 hHeld ⊢
      refine zpz (i := 3) (N := some 27) (any_of HT_.out zq1) ?_
      refine zpz (i := 4) (N := some 28) (any_of HT_.out zq1) ?_
      refine zpz (i := 5) (N := some 29) (any_of HT_.out zq1) ?_
      refine zpz (i := 9) (N := some 33) (any_of HT_.out zq1) ?_
      refine zpz (i := 10) (N := some 34) (any_of HT_.out zq1) ?_
      refine zpz (i := 11) (N := some 35) (any_of HT_.out zq1) ?_
      refine ztz (i := 0) (N := some 24) (take_ofW HT_.out HW_.out zq1) hHeld ?_
      refine ztz (i := 1) (N := some 25) (take_ofW HT_.out HW_.out zq1) hHeld ?_
      refine ztz (i := 2) (N := some 26) (take_ofW HT_.out HW_.out zq1) hHeld ?_
      refine ztz (i := 6) (N := some 30) (take_ofW HT_.out HW_.out zq1) hHeld ?_
      refine zpz (i := 7) (N := some 31) (any_of HT_.out zq1) ?_
      refine zpz (i := 8) (N := some 32) (any_of HT_.out zq1) ?_
      refine ztz (i := 12) (N := some 36) (take_ofW HT_.out HW_.out zq1) hHeld ?_
      refine join_ (σ := Nat) 2 #[true, true, true, true, true, true, true, true, true, true, true, true, true, true, true, true, true, true, false, false] (fun s_ => [(37, .tuple #[.agg #[.int .i64 t504, .int .i64 t505, .int .i64 t506, .int .i64 t507], .int .i64 t508]), (15, .pointer (some ⟨s_, 0, none⟩)), (23, .tuple #[.agg #[.int .i64 t504, .int .i64 t505, .int .i64 t506, .int .i64 t507], .int .i64 t508]), (38, .agg #[.int .i64 t504, .int .i64 t505, .int .i64 t506, .int .i64 t507]), (39, .int .i64 t508)]) (fun s_ w' => (w'.cell? ⟨gb500, 0, none⟩ = some (.int .i64 a0_0) ∧ w'.cell? ⟨gb500, 1, none⟩ = some (.int .i64 a0_1) ∧ w'.cell? ⟨gb500, 2, none⟩ = some (.int .i64 a0_2) ∧ w'.cell? ⟨gb500, 3, none⟩ = some (.int .i64 a0_3) ∧ w'.cell? ⟨gb500, 4, none⟩ = some (.int .i64 a0_4) ∧ w'.cell? ⟨gb500, 5, none⟩ = some (.int .i64 a0_5) ∧ w'.cell? ⟨gb500, 6, none⟩ = some (.int .i64 a0_6) ∧ w'.cell? ⟨gb500, 7, none⟩ = some (.slice A0_7 l0_7.length c0_7) ∧ w'.cell? ⟨gb500, 8, none⟩ = some (.slice A0_8 l0_8.length c0_8) ∧ w'.cell? ⟨gb501, 0, none⟩ = some (.int .i64 a1_0) ∧ w'.cell? ⟨gb501, 1, none⟩ = some (.int .i64 a1_1) ∧ w'.cell? ⟨gb501, 2, none⟩ = some (.int .i64 a1_2) ∧ w'.cell? ⟨gb501, 3, none⟩ = some (.int .i64 a1_3) ∧ w'.cell? ⟨gb501, 4, none⟩ = some (.int .i64 a1_4) ∧ w'.cell? ⟨gb501, 5, none⟩ = some (.int .i64 a1_5) ∧ w'.cell? ⟨gb501, 6, none⟩ = some (.int .i64 a1_6) ∧ w'.cell? ⟨gb502, 0, none⟩ = some (.int .i64 x503000_1) ∧ w'.cell? ⟨gb502, 1, none⟩ = some (.int .i64 x503001_1) ∧ w'.cell? ⟨gb502, 2, none⟩ = some (.int .i64 x503002_1) ∧ w'.cell? ⟨gb502, 3, none⟩ = some (.int .i64 x503003_1) ∧ w'.cell? (ad503.add ((x14_1).toNat * 2)) = some (.int .i64 ((rd_T33 l4 x14_1).f0)) ∧ w'.cell? ⟨(ad503.add ((x14_1).toNat * 2)).block, (ad503.add ((x14_1).toNat * 2)).off + 1, none⟩ = some (.int .i64 ((rd_T33 l4 x14_1).f1))) ∧ (Kd.R k31 31 w' w.heap.size (fun k_ => k_ ≠ gb502 ∧ k_ ≠ s_) u13 x13_1) ∧ (w'.heap[gb500]? = some (.cells #[.int .i64 a0_0, .int .i64 a0_1, .int .i64 a0_2, .int .i64 a0_3, .int .i64 a0_4, .int .i64 a0_5, .int .i64 a0_6, .slice A0_7 l0_7.length c0_7, .slice A0_8 l0_8.length c0_8] 25 (0, 0))) ∧ (w'.heap[gb501]? = some (.cells #[.int .i64 a1_0, .int .i64 a1_1, .int .i64 a1_2, .int .i64 a1_3, .int .i64 a1_4, .int .i64 a1_5, .int .i64 a1_6] 29 (0, 0))) ∧ (w'.heap[gb502]? = some (.cells #[.int .i64 x503000_1, .int .i64 x503001_1, .int .i64 x503002_1, .int .i64 x503003_1] 31 (0, 0))) ∧ (w'.heap[s_]? = some (.cells #[.int .i64 0, .int .i64 0, .int .i64 0, .int .i64 0] 31 (0, 0))) ∧ (w.heap.size ≤ s_) ∧ (w.heap.size ≤ s_) ∧ (gb500 ≠ s_) ∧ (s_ ≠ gb500) ∧ (gb501 ≠ s_) ∧ (s_ ≠ gb501) ∧ (gb502 ≠ s_) ∧ (s_ ≠ gb502) ∧ (Below w.heap.size w w')) ?_ ?_
      rotate_left
      ·intro hCont
       refine two_ (i := 13) (j := 17) (Ni := some 37) (Nj := some 15) #[true, true, true, true, true, true, true, true, true, true, true, true, true, true, false, false, false, false, false, false] #[true, true, true, true, true, true, true, true, true, true, true, true, true, false, false, false, false, true, false, false] rfl rfl rfl rfl (two_of HT_.out zq1) (by decide) (by decide) (fun K hK => ?_) (fun K hK => ?_)
       ·skip
        refine goes_ Try.func82 zq1 rfl #[.agg #[.int .i64 a0_0, .int .i64 a0_1, .int .i64 a0_2, .int .i64 a0_3, .int .i64 a0_4, .int .i64 a0_5, .int .i64 a0_6, .slice A0_7 l0_7.length c0_7, .slice A0_8 l0_8.length c0_8], .agg #[.int .i64 a1_0, .int .i64 a1_1, .int .i64 a1_2, .int .i64 a1_3, .int .i64 a1_4, .int .i64 a1_5, .int .i64 a1_6], .agg #[.int .i64 x503000_1, .int .i64 x503001_1, .int .i64 x503002_1, .int .i64 x503003_1], .int .i64 (wrap64 (a3 + (wrap64 (x14_1 * a1_1)))), .agg #[.int .i64 ((rd_T33 l4 x14_1).f0), .int .i64 ((rd_T33 l4 x14_1).f1)]] (by rfl) rfl rfl zq8 ?_
        with_reducible refine (isobathref03_dive.calls k1 a0_0 a0_1 a0_2 a0_3 a0_4 a0_5 a0_6 _ _ l0_7 _ _ l0_8 a1_0 a1_1 a1_2 a1_3 a1_4 a1_5 a1_6 x503000_1 x503001_1 x503002_1 x503003_1 (wrap64 (a3 + (wrap64 (x14_1 * a1_1)))) ((rd_T33 l4 x14_1).f0) ((rd_T33 l4 x14_1).f1) t504 t505 t506 t507 t508 _ ?side1 ?side2 ?side3 ?side4 A11.out).mono ?_
        (case side1 => repeat (first | exact (Kd.C_below HR0_7.out HB.out) | (with_reducible refine Kd.C_alloc ?_ _) | (with_reducible refine Kd.C_drewN ?_ _) | (with_reducible refine Kd.C_drew ?_)))
        (case side2 => exact HC0_7.out)
        (case side3 => repeat (first | exact (Kd.C_below HR0_8.out HB.out) | (with_reducible refine Kd.C_alloc ?_ _) | (with_reducible refine Kd.C_drewN ?_ _) | (with_reducible refine Kd.C_drew ?_)))
        (case side4 => exact HC0_8.out)
        rintro e w31 ⟨rfl, hb⟩
        refine ⟨_, rfl, ?_⟩
        replace HO_13 := Aside0.mk (Kd.R_below zq57 hb)
        replace BK500 := zbb BK500 hb
        replace BK501 := zbb BK501 hb
        replace BK502 := zbb BK502 hb
        replace HB := zbs HB hb
        (try clear hb)
        (try clear hb2)
        (try clear hk)
        (try clear hi)
        refine hK.out _ _ ⟨(blk_cell BK500.out 0).trans rfl, (blk_cell BK500.out 1).trans rfl, (blk_cell BK500.out 2).trans rfl, (blk_cell BK500.out 3).trans rfl, (blk_cell BK500.out 4).trans rfl, (blk_cell BK500.out 5).trans rfl, (blk_cell BK500.out 6).trans rfl, (blk_cell BK500.out 7).trans rfl, (blk_cell BK500.out 8).trans rfl, (blk_cell BK501.out 0).trans rfl, (blk_cell BK501.out 1).trans rfl, (blk_cell BK501.out 2).trans rfl, (blk_cell BK501.out 3).trans rfl, (blk_cell BK501.out 4).trans rfl, (blk_cell BK501.out 5).trans rfl, (blk_cell BK501.out 6).trans rfl, zca4 BK502.out ⟨((HB.out.cell (World.block_lt_of_cell? w _ hw503_0)).trans hw503_0), ((HB.out.cell (World.block_lt_of_cell? w _ hw503_1)).trans hw503_1)⟩⟩ (fun hHeld => ?_)
        clear hK K
        refine norm_ zq58 ?_
        refine zpz (i := 14) (N := some 23) (any_of HT_.out zq1) ?_
        refine zpz (i := 15) (N := some 38) (any_of HT_.out zq1) ?_
        refine zpz (i := 16) (N := some 39) (any_of HT_.out zq1) ?_
        refine one_ (i := 17) (N := some 15) #[true, true, true, true, true, true, true, true, true, true, true, true, true, true, true, true, true, true, false, false] rfl rfl (one_of HT_.out zq1) (by decide) (fun K hK => ?_)
        refine box_step ?hg (N := 15) ?hd (cs := #[.int .i64 0, .int .i64 0, .int .i64 0, .int .i64 0]) (t := 31) ?hr ?_; (case hd => rfl); (case hg => rfl); (case hr => first | (go_simp; done) | (go_simp; rfl))
        intro gb509 hg w32 hbox hb
        have BK509 := Aside0.mk (hbox)
        have GW509 := zgs HB hg
        have GE509 := zgs HB hg
        have NB500_509 := znp BK500 hg
        have NB509_500 := znq BK500 hg
        have NB501_509 := znp BK501 hg
        have NB509_501 := znq BK501 hg
        have NB502_509 := znp BK502 hg
        have NB509_502 := znq BK502 hg
        replace HO_13 := Aside0.mk (Kd.R_below (Kd.R_elderB zq57 gb509 (Nat.le_of_eq hg.symm)) hb)
        replace BK500 := zbb BK500 hb
        replace BK501 := zbb BK501 hb
        replace BK502 := zbb BK502 hb
        replace HB := zbs HB hb
        clear hb hbox hg
        refine hK.out _ _ ⟨(blk_cell BK500.out 0).trans rfl, (blk_cell BK500.out 1).trans rfl, (blk_cell BK500.out 2).trans rfl, (blk_cell BK500.out 3).trans rfl, (blk_cell BK500.out 4).trans rfl, (blk_cell BK500.out 5).trans rfl, (blk_cell BK500.out 6).trans rfl, (blk_cell BK500.out 7).trans rfl, (blk_cell BK500.out 8).trans rfl, (blk_cell BK501.out 0).trans rfl, (blk_cell BK501.out 1).trans rfl, (blk_cell BK501.out 2).trans rfl, (blk_cell BK501.out 3).trans rfl, (blk_cell BK501.out 4).trans rfl, (blk_cell BK501.out 5).trans rfl, (blk_cell BK501.out 6).trans rfl, zca4 BK502.out ⟨((HB.out.cell (World.block_lt_of_cell? w _ hw503_0)).trans hw503_0), ((HB.out.cell (World.block_lt_of_cell? w _ hw503_1)).trans hw503_1)⟩⟩ (fun hHeld => ?_)
        clear hK K
        refine norm_ zq59 ?_
        exact norm_ zq40 (hCont (gb509) _ ⟨hHeld, zq57, (by (with_reducible repeat (first | refine blk_drewN ?_ _ | refine blk_drew ?_ | refine blk_alloc ?_ _)); exact BK500.out), (by (with_reducible repeat (first | refine blk_drewN ?_ _ | refine blk_drew ?_ | refine blk_alloc ?_ _)); exact BK501.out), (by (with_reducible repeat (first | refine blk_drewN ?_ _ | refine blk_drew ?_ | refine blk_alloc ?_ _)); exact BK502.out), (by (with_reducible repeat (first | refine blk_drewN ?_ _ | refine blk_drew ?_ | refine blk_alloc ?_ _)); exact BK509.out), GW509.out, GE509.out, NB500_509.out, NB509_500.out, NB501_509.out, NB509_501.out, NB502_509.out, NB509_502.out, zbz⟩)
       ·skip
        refine box_step ?hg (N := 15) ?hd (cs := #[.int .i64 0, .int .i64 0, .int .i64 0, .int .i64 0]) (t := 31) ?hr ?_; (case hd => rfl); (case hg => rfl); (case hr => first | (go_simp; done) | (go_simp; rfl))
        intro gb509 hg w31 hbox hb
        have BK509 := Aside0.mk (hbox)
        have GW509 := zgs HB hg
        have GE509 := zgs HB hg
        have NB500_509 := znp BK500 hg
        have NB509_500 := znq BK500 hg
        have NB501_509 := znp BK501 hg
        have NB509_501 := znq BK501 hg
        have NB502_509 := znp BK502 hg
        have NB509_502 := znq BK502 hg
        replace HO_13 := Aside0.mk (Kd.R_below (Kd.R_elderB zq57 gb509 (Nat.le_of_eq hg.symm)) hb)
        replace BK500 := zbb BK500 hb
        replace BK501 := zbb BK501 hb
        replace BK502 := zbb BK502 hb
        replace HB := zbs HB hb
        clear hb hbox hg
        refine hK.out _ _ ⟨(blk_cell BK500.out 0).trans rfl, (blk_cell BK500.out 1).trans rfl, (blk_cell BK500.out 2).trans rfl, (blk_cell BK500.out 3).trans rfl, (blk_cell BK500.out 4).trans rfl, (blk_cell BK500.out 5).trans rfl, (blk_cell BK500.out 6).trans rfl, (blk_cell BK500.out 7).trans rfl, (blk_cell BK500.out 8).trans rfl, (blk_cell BK501.out 0).trans rfl, (blk_cell BK501.out 1).trans rfl, (blk_cell BK501.out 2).trans rfl, (blk_cell BK501.out 3).trans rfl, (blk_cell BK501.out 4).trans rfl, (blk_cell BK501.out 5).trans rfl, (blk_cell BK501.out 6).trans rfl, zca4 BK502.out ⟨((HB.out.cell (World.block_lt_of_cell? w _ hw503_0)).trans hw503_0), ((HB.out.cell (World.block_lt_of_cell? w _ hw503_1)).trans hw503_1)⟩⟩ (fun hHeld => ?_)
        clear hK K
        refine norm_ zq59 ?_
        refine one_ (i := 13) (N := some 37) #[true, true, true, true, true, true, true, true, true, true, true, true, true, true, false, false, false, true, false, false] rfl rfl (one_of HT_.out zq1) (by decide) (fun K hK => ?_)
        refine goes_ Try.func82 zq1 rfl #[.agg #[.int .i64 a0_0, .int .i64 a0_1, .int .i64 a0_2, .int .i64 a0_3, .int .i64 a0_4, .int .i64 a0_5, .int .i64 a0_6, .slice A0_7 l0_7.length c0_7, .slice A0_8 l0_8.length c0_8], .agg #[.int .i64 a1_0, .int .i64 a1_1, .int .i64 a1_2, .int .i64 a1_3, .int .i64 a1_4, .int .i64 a1_5, .int .i64 a1_6], .agg #[.int .i64 x503000_1, .int .i64 x503001_1, .int .i64 x503002_1, .int .i64 x503003_1], .int .i64 (wrap64 (a3 + (wrap64 (x14_1 * a1_1)))), .agg #[.int .i64 ((rd_T33 l4 x14_1).f0), .int .i64 ((rd_T33 l4 x14_1).f1)]] (by rfl) rfl rfl zq8 ?_
        with_reducible refine (isobathref03_dive.calls k1 a0_0 a0_1 a0_2 a0_3 a0_4 a0_5 a0_6 _ _ l0_7 _ _ l0_8 a1_0 a1_1 a1_2 a1_3 a1_4 a1_5 a1_6 x503000_1 x503001_1 x503002_1 x503003_1 (wrap64 (a3 + (wrap64 (x14_1 * a1_1)))) ((rd_T33 l4 x14_1).f0) ((rd_T33 l4 x14_1).f1) t504 t505 t506 t507 t508 _ ?side1 ?side2 ?side3 ?side4 A11.out).mono ?_
        (case side1 => repeat (first | exact (Kd.C_below HR0_7.out HB.out) | (with_reducible refine Kd.C_alloc ?_ _) | (with_reducible refine Kd.C_drewN ?_ _) | (with_reducible refine Kd.C_drew ?_)))
        (case side2 => exact HC0_7.out)
        (case side3 => repeat (first | exact (Kd.C_below HR0_8.out HB.out) | (with_reducible refine Kd.C_alloc ?_ _) | (with_reducible refine Kd.C_drewN ?_ _) | (with_reducible refine Kd.C_drew ?_)))
        (case side4 => exact HC0_8.out)
        rintro e w32 ⟨rfl, hb⟩
        refine ⟨_, rfl, ?_⟩
        replace HO_13 := Aside0.mk (Kd.R_below zq57 hb)
        replace BK500 := zbb BK500 hb
        replace BK501 := zbb BK501 hb
        replace BK502 := zbb BK502 hb
        replace BK509 := zbb BK509 hb
        replace HB := zbs HB hb
        (try clear hb)
        (try clear hb2)
        (try clear hk)
        (try clear hi)
        refine hK.out _ _ ⟨(blk_cell BK500.out 0).trans rfl, (blk_cell BK500.out 1).trans rfl, (blk_cell BK500.out 2).trans rfl, (blk_cell BK500.out 3).trans rfl, (blk_cell BK500.out 4).trans rfl, (blk_cell BK500.out 5).trans rfl, (blk_cell BK500.out 6).trans rfl, (blk_cell BK500.out 7).trans rfl, (blk_cell BK500.out 8).trans rfl, (blk_cell BK501.out 0).trans rfl, (blk_cell BK501.out 1).trans rfl, (blk_cell BK501.out 2).trans rfl, (blk_cell BK501.out 3).trans rfl, (blk_cell BK501.out 4).trans rfl, (blk_cell BK501.out 5).trans rfl, (blk_cell BK501.out 6).trans rfl, zca4 BK502.out ⟨((HB.out.cell (World.block_lt_of_cell? w _ hw503_0)).trans hw503_0), ((HB.out.cell (World.block_lt_of_cell? w _ hw503_1)).trans hw503_1)⟩⟩ (fun hHeld => ?_)
        clear hK K
        refine norm_ zq58 ?_
        refine zpz (i := 14) (N := some 23) (any_of HT_.out zq1) ?_
        refine zpz (i := 15) (N := some 38) (any_of HT_.out zq1) ?_
        refine zpz (i := 16) (N := some 39) (any_of HT_.out zq1) ?_
        exact norm_ zq40 (hCont (gb509) _ ⟨hHeld, zq57, (by (with_reducible repeat (first | refine blk_drewN ?_ _ | refine blk_drew ?_ | refine blk_alloc ?_ _)); exact BK500.out), (by (with_reducible repeat (first | refine blk_drewN ?_ _ | refine blk_drew ?_ | refine blk_alloc ?_ _)); exact BK501.out), (by (with_reducible repeat (first | refine blk_drewN ?_ _ | refine blk_drew ?_ | refine blk_alloc ?_ _)); exact BK502.out), (by (with_reducible repeat (first | refine blk_drewN ?_ _ | refine blk_drew ?_ | refine blk_alloc ?_ _)); exact BK509.out), GW509.out, GE509.out, NB500_509.out, NB509_500.out, NB501_509.out, NB509_501.out, NB502_509.out, NB509_502.out, zbz⟩)
      rintro gb509 w33 ⟨hS_, h0_, h1_, h2_, h3_, h4_, h5_, h6_, h7_, h8_, h9_, h10_, h11_, h12_, h13_⟩
      have n0_ : Aside0 (Kd.R k31 31 w33 w.heap.size (fun k_ => k_ ≠ gb502 ∧ k_ ≠ gb509) u13 x13_1) := ⟨h0_⟩
      have n1_ : Aside0 (w33.heap[gb500]? = some (.cells #[.int .i64 a0_0, .int .i64 a0_1, .int .i64 a0_2, .int .i64 a0_3, .int .i64 a0_4, .int .i64 a0_5, .int .i64 a0_6, .slice A0_7 l0_7.length c0_7, .slice A0_8 l0_8.length c0_8] 25 (0, 0))) := ⟨h1_⟩
      have n2_ : Aside0 (w33.heap[gb501]? = some (.cells #[.int .i64 a1_0, .int .i64 a1_1, .int .i64 a1_2, .int .i64 a1_3, .int .i64 a1_4, .int .i64 a1_5, .int .i64 a1_6] 29 (0, 0))) := ⟨h2_⟩
      have n3_ : Aside0 (w33.heap[gb502]? = some (.cells #[.int .i64 x503000_1, .int .i64 x503001_1, .int .i64 x503002_1, .int .i64 x503003_1] 31 (0, 0))) := ⟨h3_⟩
      have n4_ : Aside0 (w33.heap[gb509]? = some (.cells #[.int .i64 0, .int .i64 0, .int .i64 0, .int .i64 0] 31 (0, 0))) := ⟨h4_⟩
      have n5_ : Aside0 (w.heap.size ≤ gb509) := ⟨h5_⟩
      have n6_ : Aside0 (w.heap.size ≤ gb509) := ⟨h6_⟩
      have n7_ : Aside0 (gb500 ≠ gb509) := ⟨h7_⟩
      have n8_ : Aside0 (gb509 ≠ gb500) := ⟨h8_⟩
      have n9_ : Aside0 (gb501 ≠ gb509) := ⟨h9_⟩
      have n10_ : Aside0 (gb509 ≠ gb501) := ⟨h10_⟩
      have n11_ : Aside0 (gb502 ≠ gb509) := ⟨h11_⟩
      have n12_ : Aside0 (gb509 ≠ gb502) := ⟨h12_⟩
      have n13_ : Aside0 (Below w.heap.size w w33) := ⟨h13_⟩
      clear HO_13 BK500 BK501 BK502 HB
      clear h0_ h1_ h2_ h3_ h4_ h5_ h6_ h7_ h8_ h9_ h10_ h11_ h12_ h13_
      have HO_13 := n0_
      have BK500 := n1_
      have BK501 := n2_
      have BK502 := n3_
      have BK509 := n4_
      have GW509 := n5_
      have GE509 := n6_
      have NB500_509 := n7_
      have NB509_500 := n8_
      have NB501_509 := n9_
      have NB509_501 := n10_
      have NB502_509 := n11_
      have NB509_502 := n12_
      have HB := n13_
      clear n0_ n1_ n2_ n3_ n4_ n5_ n6_ n7_ n8_ n9_ n10_ n11_ n12_ n13_
      have hHeld : w33.cell? ⟨gb500, 0, none⟩ = some (.int .i64 a0_0) ∧ w33.cell? ⟨gb500, 1, none⟩ = some (.int .i64 a0_1) ∧ w33.cell? ⟨gb500, 2, none⟩ = some (.int .i64 a0_2) ∧ w33.cell? ⟨gb500, 3, none⟩ = some (.int .i64 a0_3) ∧ w33.cell? ⟨gb500, 4, none⟩ = some (.int .i64 a0_4) ∧ w33.cell? ⟨gb500, 5, none⟩ = some (.int .i64 a0_5) ∧ w33.cell? ⟨gb500, 6, none⟩ = some (.int .i64 a0_6) ∧ w33.cell? ⟨gb500, 7, none⟩ = some (.slice A0_7 l0_7.length c0_7) ∧ w33.cell? ⟨gb500, 8, none⟩ = some (.slice A0_8 l0_8.length c0_8) ∧ w33.cell? ⟨gb501, 0, none⟩ = some (.int .i64 a1_0) ∧ w33.cell? ⟨gb501, 1, none⟩ = some (.int .i64 a1_1) ∧ w33.cell? ⟨gb501, 2, none⟩ = some (.int .i64 a1_2) ∧ w33.cell? ⟨gb501, 3, none⟩ = some (.int .i64 a1_3) ∧ w33.cell? ⟨gb501, 4, none⟩ = some (.int .i64 a1_4) ∧ w33.cell? ⟨gb501, 5, none⟩ = some (.int .i64 a1_5) ∧ w33.cell? ⟨gb501, 6, none⟩ = some (.int .i64 a1_6) ∧ w33.cell? ⟨gb502, 0, none⟩ = some (.int .i64 x503000_1) ∧ w33.cell? ⟨gb502, 1, none⟩ = some (.int .i64 x503001_1) ∧ w33.cell? ⟨gb502, 2, none⟩ = some (.int .i64 x503002_1) ∧ w33.cell? ⟨gb502, 3, none⟩ = some (.int .i64 x503003_1) ∧ w33.cell? (ad503.add ((x14_1).toNat * 2)) = some (.int .i64 ((rd_T33 l4 x14_1).f0)) ∧ w33.cell? ⟨(ad503.add ((x14_1).toNat * 2)).block, (ad503.add ((x14_1).toNat * 2)).off + 1, none⟩ = some (.int .i64 ((rd_T33 l4 x14_1).f1)) := hS_
      refine norm_ (a' := ?_) ?_ ?_
      rotate_left
      ·simp only [putAll, Act.put, List.setIfInBounds_toArray, List.set_cons_zero, List.set_cons_succ]
       rfl
      refine one_ (i := 18) (N := none) #[true, true, true, true, true, true, true, true, true, true, true, true, true, true, true, true, true, true, true, false] rfl rfl (one_of HT_.out zq1) (by decide) (fun K hK => ?_)
      have hs34 : w33.cell? ⟨gb509, 0, none⟩ = some (.int .i64 0) := (blk_cell BK509.out 0).trans rfl
      have hfs34 := blk_frozen BK509.out 0
      have hns34_0 := NB500_509.out
      have hns34_1 := NB501_509.out
      have hns34_2 := NB502_509.out
      have hms34_0 := NB509_500.out
      have hms34_1 := NB509_501.out
      have hms34_2 := NB509_502.out
      have hs35 : w33.cell? ⟨gb509, 1, none⟩ = some (.int .i64 0) := (blk_cell BK509.out 1).trans rfl
      have hfs35 := blk_frozen BK509.out 1
      have hns35_0 := NB500_509.out
      have hns35_1 := NB501_509.out
      have hns35_2 := NB502_509.out
      have hms35_0 := NB509_500.out
      have hms35_1 := NB509_501.out
      have hms35_2 := NB509_502.out
      have hs36 : w33.cell? ⟨gb509, 2, none⟩ = some (.int .i64 0) := (blk_cell BK509.out 2).trans rfl
      have hfs36 := blk_frozen BK509.out 2
      have hns36_0 := NB500_509.out
      have hns36_1 := NB501_509.out
      have hns36_2 := NB502_509.out
      have hms36_0 := NB509_500.out
      have hms36_1 := NB509_501.out
      have hms36_2 := NB509_502.out
      have hs37 : w33.cell? ⟨gb509, 3, none⟩ = some (.int .i64 0) := (blk_cell BK509.out 3).trans rfl
      have hfs37 := blk_frozen BK509.out 3
      have hns37_0 := NB500_509.out
      have hns37_1 := NB501_509.out
      have hns37_2 := NB502_509.out
      have hms37_0 := NB509_500.out
      have hms37_1 := NB509_501.out
      have hms37_2 := NB509_502.out
      refine skip_ (w1 := ?_) (by rfl) rfl ?_ ?_
      rotate_left
      ·go_simp
       rfl
      refine hK.out _ _ ⟨((cell_far (p := ⟨gb509, _, none⟩) NB500_509.out _).trans (((cell_far (p := ⟨gb509, _, none⟩) NB500_509.out _).trans (((cell_far (p := ⟨gb509, _, none⟩) NB500_509.out _).trans (((cell_far (p := ⟨gb509, _, none⟩) NB500_509.out _).trans (hHeld.1)))))))), ((cell_far (p := ⟨gb509, _, none⟩) NB500_509.out _).trans (((cell_far (p := ⟨gb509, _, none⟩) NB500_509.out _).trans (((cell_far (p := ⟨gb509, _, none⟩) NB500_509.out _).trans (((cell_far (p := ⟨gb509, _, none⟩) NB500_509.out _).trans (hHeld.2.1)))))))), ((cell_far (p := ⟨gb509, _, none⟩) NB500_509.out _).trans (((cell_far (p := ⟨gb509, _, none⟩) NB500_509.out _).trans (((cell_far (p := ⟨gb509, _, none⟩) NB500_509.out _).trans (((cell_far (p := ⟨gb509, _, none⟩) NB500_509.out _).trans (hHeld.2.2.1)))))))), ((cell_far (p := ⟨gb509, _, none⟩) NB500_509.out _).trans (((cell_far (p := ⟨gb509, _, none⟩) NB500_509.out _).trans (((cell_far (p := ⟨gb509, _, none⟩) NB500_509.out _).trans (((cell_far (p := ⟨gb509, _, none⟩) NB500_509.out _).trans (hHeld.2.2.2.1)))))))), ((cell_far (p := ⟨gb509, _, none⟩) NB500_509.out _).trans (((cell_far (p := ⟨gb509, _, none⟩) NB500_509.out _).trans (((cell_far (p := ⟨gb509, _, none⟩) NB500_509.out _).trans (((cell_far (p := ⟨gb509, _, none⟩) NB500_509.out _).trans (hHeld.2.2.2.2.1)))))))), ((cell_far (p := ⟨gb509, _, none⟩) NB500_509.out _).trans (((cell_far (p := ⟨gb509, _, none⟩) NB500_509.out _).trans (((cell_far (p := ⟨gb509, _, none⟩) NB500_509.out _).trans (((cell_far (p := ⟨gb509, _, none⟩) NB500_509.out _).trans (hHeld.2.2.2.2.2.1)))))))), ((cell_far (p := ⟨gb509, _, none⟩) NB500_509.out _).trans (((cell_far (p := ⟨gb509, _, none⟩) NB500_509.out _).trans (((cell_far (p := ⟨gb509, _, none⟩) NB500_509.out _).trans (((cell_far (p := ⟨gb509, _, none⟩) NB500_509.out _).trans (hHeld.2.2.2.2.2.2.1)))))))), ((cell_far (p := ⟨gb509, _, none⟩) NB500_509.out _).trans (((cell_far (p := ⟨gb509, _, none⟩) NB500_509.out _).trans (((cell_far (p := ⟨gb509, _, none⟩) NB500_509.out _).trans (((cell_far (p := ⟨gb509, _, none⟩) NB500_509.out _).trans (hHeld.2.2.2.2.2.2.2.1)))))))), ((cell_far (p := ⟨gb509, _, none⟩) NB500_509.out _).trans (((cell_far (p := ⟨gb509, _, none⟩) NB500_509.out _).trans (((cell_far (p := ⟨gb509, _, none⟩) NB500_509.out _).trans (((cell_far (p := ⟨gb509, _, none⟩) NB500_509.out _).trans (hHeld.2.2.2.2.2.2.2.2.1)))))))), ((cell_far (p := ⟨gb509, _, none⟩) NB501_509.out _).trans (((cell_far (p := ⟨gb509, _, none⟩) NB501_509.out _).trans (((cell_far (p := ⟨gb509, _, none⟩) NB501_509.out _).trans (((cell_far (p := ⟨gb509, _, none⟩) NB501_509.out _).trans (hHeld.2.2.2.2.2.2.2.2.2.1)))))))), ((cell_far (p := ⟨gb509, _, none⟩) NB501_509.out _).trans (((cell_far (p := ⟨gb509, _, none⟩) NB501_509.out _).trans (((cell_far (p := ⟨gb509, _, none⟩) NB501_509.out _).trans (((cell_far (p := ⟨gb509, _, none⟩) NB501_509.out _).trans (hHeld.2.2.2.2.2.2.2.2.2.2.1)))))))), ((cell_far (p := ⟨gb509, _, none⟩) NB501_509.out _).trans (((cell_far (p := ⟨gb509, _, none⟩) NB501_509.out _).trans (((cell_far (p := ⟨gb509, _, none⟩) NB501_509.out _).trans (((cell_far (p := ⟨gb509, _, none⟩) NB501_509.out _).trans (hHeld.2.2.2.2.2.2.2.2.2.2.2.1)))))))), ((cell_far (p := ⟨gb509, _, none⟩) NB501_509.out _).trans (((cell_far (p := ⟨gb509, _, none⟩) NB501_509.out _).trans (((cell_far (p := ⟨gb509, _, none⟩) NB501_509.out _).trans (((cell_far (p := ⟨gb509, _, none⟩) NB501_509.out _).trans (hHeld.2.2.2.2.2.2.2.2.2.2.2.2.1)))))))), ((cell_far (p := ⟨gb509, _, none⟩) NB501_509.out _).trans (((cell_far (p := ⟨gb509, _, none⟩) NB501_509.out _).trans (((cell_far (p := ⟨gb509, _, none⟩) NB501_509.out _).trans (((cell_far (p := ⟨gb509, _, none⟩) NB501_509.out _).trans (hHeld.2.2.2.2.2.2.2.2.2.2.2.2.2.1)))))))), ((cell_far (p := ⟨gb509, _, none⟩) NB501_509.out _).trans (((cell_far (p := ⟨gb509, _, none⟩) NB501_509.out _).trans (((cell_far (p := ⟨gb509, _, none⟩) NB501_509.out _).trans (((cell_far (p := ⟨gb509, _, none⟩) NB501_509.out _).trans (hHeld.2.2.2.2.2.2.2.2.2.2.2.2.2.2.1)))))))), ((cell_far (p := ⟨gb509, _, none⟩) NB501_509.out _).trans (((cell_far (p := ⟨gb509, _, none⟩) NB501_509.out _).trans (((cell_far (p := ⟨gb509, _, none⟩) NB501_509.out _).trans (((cell_far (p := ⟨gb509, _, none⟩) NB501_509.out _).trans (hHeld.2.2.2.2.2.2.2.2.2.2.2.2.2.2.2.1)))))))), ((cell_far (p := ⟨gb509, _, none⟩) NB502_509.out _).trans (((cell_far (p := ⟨gb509, _, none⟩) NB502_509.out _).trans (((cell_far (p := ⟨gb509, _, none⟩) NB502_509.out _).trans (((cell_far (p := ⟨gb509, _, none⟩) NB502_509.out _).trans (hHeld.2.2.2.2.2.2.2.2.2.2.2.2.2.2.2.2.1)))))))), ((cell_far (p := ⟨gb509, _, none⟩) NB502_509.out _).trans (((cell_far (p := ⟨gb509, _, none⟩) NB502_509.out _).trans (((cell_far (p := ⟨gb509, _, none⟩) NB502_509.out _).trans (((cell_far (p := ⟨gb509, _, none⟩) NB502_509.out _).trans (hHeld.2.2.2.2.2.2.2.2.2.2.2.2.2.2.2.2.2.1)))))))), ((cell_far (p := ⟨gb509, _, none⟩) NB502_509.out _).trans (((cell_far (p := ⟨gb509, _, none⟩) NB502_509.out _).trans (((cell_far (p := ⟨gb509, _, none⟩) NB502_509.out _).trans (((cell_far (p := ⟨gb509, _, none⟩) NB502_509.out _).trans (hHeld.2.2.2.2.2.2.2.2.2.2.2.2.2.2.2.2.2.2.1)))))))), ((cell_far (p := ⟨gb509, _, none⟩) NB502_509.out _).trans (((cell_far (p := ⟨gb509, _, none⟩) NB502_509.out _).trans (((cell_far (p := ⟨gb509, _, none⟩) NB502_509.out _).trans (((cell_far (p := ⟨gb509, _, none⟩) NB502_509.out _).trans (hHeld.2.2.2.2.2.2.2.2.2.2.2.2.2.2.2.2.2.2.2.1)))))))), ((cell_far (p := ⟨gb509, _, none⟩) zq60 _).trans (((cell_far (p := ⟨gb509, _, none⟩) zq60 _).trans (((cell_far (p := ⟨gb509, _, none⟩) zq60 _).trans (((cell_far (p := ⟨gb509, _, none⟩) zq60 _).trans (hHeld.2.2.2.2.2.2.2.2.2.2.2.2.2.2.2.2.2.2.2.2.1)))))))), ((cell_far (p := ⟨gb509, _, none⟩) zq61 _).trans (((cell_far (p := ⟨gb509, _, none⟩) zq61 _).trans (((cell_far (p := ⟨gb509, _, none⟩) zq61 _).trans (((cell_far (p := ⟨gb509, _, none⟩) zq61 _).trans (hHeld.2.2.2.2.2.2.2.2.2.2.2.2.2.2.2.2.2.2.2.2.2))))))))⟩ (fun hHeld => ?_)
      clear hK K
      refine zpz (i := 19) (N := some 16) (any_of HT_.out zq1) ?_
      refine done_ (done_of HT_.out zq1) ?_
      try go_wp2
      go_ret3
      exact ⟨_, zq6, zq10, zbz⟩
    ·rw [if_neg c10] at H
     exact absurd H (by simp)
   ·rw [if_neg c9] at H
    have c9b0 : decide (x14_1 < (l4.length : Int)) = false := decide_eq_false c9
    clear c9
    simp only [Option.some.injEq, Prod.mk.injEq] at H
    obtain ⟨rfl, rfl, rfl⟩ := H
    go_wp2
    go_ret3
    exact ⟨_, zq6, by (with_reducible repeat (first | apply Kd.R_alloc | apply Kd.R_drewN | apply Kd.R_drew)); exact Kd.R_mono HO_13.out (fun _ hk => trivial), zbz⟩

end Go.Proofs.Ytmhaiihjfgfaoaa.Pr
end
