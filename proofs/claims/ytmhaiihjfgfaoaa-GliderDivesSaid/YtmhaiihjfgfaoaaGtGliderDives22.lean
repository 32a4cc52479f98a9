/- Part 22 of the proof of GliderDives: what the functions compute. No condition. -/
import Derived.Test.YtmhaiihjfgfaoaaGtGliderDives3
import Derived.Test.YtmhaiihjfgfaoaaGtGliderDives18
import Derived.Test.YtmhaiihjfgfaoaaGtGliderDives17
import Derived.Test.YtmhaiihjfgfaoaaGtGliderDives19
section
namespace Go.Proofs.Ytmhaiihjfgfaoaa.Pr
open Go.RowKit Go.Proofs.YtmhaiihjfgfaoaaW.PrintWords Go.Proofs.YtmhaiihjfgfaoaaW.PrintLast Go.Proofs.YtmhaiihjfgfaoaaW.PrintMore
attribute [local go_sem] max2_int min2_int max_two min_two max_four
set_option linter.unusedVariables false
set_option linter.unusedSimpArgs false

/-! ### isobathref03_safe: function 123 -/
def isobathref03_safe.l0 : Nat → Int → Int → Int → Int → Int → Int → Int → Int → List Bool → List (S40) → Int → Int → Int → Int → Int → Int → Int → Int → Int → Int → Int → Option (Bool)
 | 0, _, _, _, _, _, _, _, _, _, _, _, _, _, _, _, _, _, _, _, _, _ => none
 | k + 1, x7, x452000, x452001, x452002, x452003, x452004, x452005, x452006, x452007, x452008, x453000, x453001, x453002, x453003, x453004, x453005, x453006, x454000, x454001, x454002, x454003 => if x7 < (wrap64 (x452000 * x452001)) then (if 0 ≤ x7 then (if x7 < (x452007.length : Int) then (if rdOf false x452007 x7 = true then ((isobathref03_Grown.f k x452000 x452001 x452002 x452003 x452004 x452005 x452006 x452007 x452008 x453000 x453001 x453002 x453003 x453004 x453005 x453006 x454000 x454001 x454002 x454003).bind fun bt455 => ((isobathref03_Cell.f x452000 x452001 x452002 x452003 x452004 x452005 x452006 x452007 x452008 x7).bind fun bt459 => ((isobathref03_touches.f bt455.1 bt455.2.1 bt455.2.2.1 bt455.2.2.2 bt459.1 bt459.2.1 bt459.2.2.1 bt459.2.2.2).bind fun t463 => (if t463 = true then (some false) else (isobathref03_safe.l0 k (wrap64 (x7 + 1)) x452000 x452001 x452002 x452003 x452004 x452005 x452006 x452007 x452008 x453000 x453001 x453002 x453003 x453004 x453005 x453006 x454000 x454001 x454002 x454003))))) else (isobathref03_safe.l0 k (wrap64 (x7 + 1)) x452000 x452001 x452002 x452003 x452004 x452005 x452006 x452007 x452008 x453000 x453001 x453002 x453003 x453004 x453005 x453006 x454000 x454001 x454002 x454003)) else (none)) else (none)) else (some true)
def isobathref03_safe.f (k : Nat) (a0_0 : Int) (a0_1 : Int) (a0_2 : Int) (a0_3 : Int) (a0_4 : Int) (a0_5 : Int) (a0_6 : Int) (l0_7 : List Bool) (l0_8 : List (S40)) (a1_0 : Int) (a1_1 : Int) (a1_2 : Int) (a1_3 : Int) (a1_4 : Int) (a1_5 : Int) (a1_6 : Int) (a2_0 : Int) (a2_1 : Int) (a2_2 : Int) (a2_3 : Int) : Option (Bool) := isobathref03_safe.l0 k 0 a0_0 a0_1 a0_2 a0_3 a0_4 a0_5 a0_6 l0_7 l0_8 a1_0 a1_1 a1_2 a1_3 a1_4 a1_5 a1_6 a2_0 a2_1 a2_2 a2_3
def isobathref03_safe.T4 : Bool × List (List Nat × List Nat) := (true, [([], []), ([0], [0]), ([], []), ([1, 2], [1, 2]), ([3], [3]), ([4], [4]), ([5], [5]), ([5], [5]), ([5], [5]), ([6, 7, 8, 5, 5], [5, 6, 7, 8]), ([5], [5]), ([5], [5]), ([10, 11, 9, 5], [5, 10, 11]), ([9, 12, 12, 5], [5, 9, 12]), ([5, 13], [5, 13])])
def isobathref03_safe.B4 : List Nat := [0, 1, 0, 7, 15, 31, 63, 63, 63, 511, 63, 63, 4095, 8191, 16383]
theorem isobathref03_safe.tab4 : rtab .any (opsOf Try.f123 4) = isobathref03_safe.T4 := by kernel_rfl
theorem isobathref03_safe.bits4 : waitsOk isobathref03_safe.T4.2 isobathref03_safe.B4 = true := by kernel_rfl
set_option maxHeartbeats 8000000 in
set_option maxRecDepth 100000 in
theorem isobathref03_safe.calls (k : Nat) (a0_0 : Int) (a0_1 : Int) (a0_2 : Int) (a0_3 : Int) (a0_4 : Int) (a0_5 : Int) (a0_6 : Int) (A0_7 : Option Addr) (c0_7 : Nat) (l0_7 : List Bool) (A0_8 : Option Addr) (c0_8 : Nat) (l0_8 : List (S40)) (a1_0 : Int) (a1_1 : Int) (a1_2 : Int) (a1_3 : Int) (a1_4 : Int) (a1_5 : Int) (a1_6 : Int) (a2_0 : Int) (a2_1 : Int) (a2_2 : Int) (a2_3 : Int) (r : Bool) (w : World) (hr0_7 : Kd.C Kd.bool w A0_7 l0_7.length l0_7) (hc0_7 : l0_7.length ≤ c0_7) (hr0_8 : Kd.C k40 w A0_8 l0_8.length l0_8) (hc0_8 : l0_8.length ≤ c0_8) (h : isobathref03_safe.f k a0_0 a0_1 a0_2 a0_3 a0_4 a0_5 a0_6 l0_7 l0_8 a1_0 a1_1 a1_2 a1_3 a1_4 a1_5 a1_6 a2_0 a2_1 a2_2 a2_3 = some r) :
  Calls Try.prog 123 #[.agg #[.int .i64 a0_0, .int .i64 a0_1, .int .i64 a0_2, .int .i64 a0_3, .int .i64 a0_4, .int .i64 a0_5, .int .i64 a0_6, .slice A0_7 l0_7.length c0_7, .slice A0_8 l0_8.length c0_8], .agg #[.int .i64 a1_0, .int .i64 a1_1, .int .i64 a1_2, .int .i64 a1_3, .int .i64 a1_4, .int .i64 a1_5, .int .i64 a1_6], .agg #[.int .i64 a2_0, .int .i64 a2_1, .int .i64 a2_2, .int .i64 a2_3]] w fun e w' => e = .returned (.bool r) ∧ Below w.heap.size w w' := by
 have hu25 := Try.underlying25
 have hu29 := Try.underlying29
 have hu31 := Try.underlying31
 have HR0_7 := Aside0.mk hr0_7
 have HC0_7 := Aside0.mk hc0_7
 clear hr0_7 hc0_7
 have HR0_8 := Aside0.mk hr0_8
 have HC0_8 := Aside0.mk hc0_8
 clear hr0_8 hc0_8
 have HB := Aside0.mk (Below.refl w.heap.size w)
 have H : (isobathref03_safe.l0 k 0 a0_0 a0_1 a0_2 a0_3 a0_4 a0_5 a0_6 l0_7 l0_8 a1_0 a1_1 a1_2 a1_3 a1_4 a1_5 a1_6 a2_0 a2_1 a2_2 a2_3) = some r := h
 clear h
 have H' := Aside0.mk H
 clear H
 go_enter Try.func123, Try.ntmps123
 go_wp2_with (first | ((with_reducible refine gate_dst (N := 3) rfl ?_); refine box_event (by rfl) (N := 3) (by rfl) (cs := #[.int .i64 a0_0, .int .i64 a0_1, .int .i64 a0_2, .int .i64 a0_3, .int .i64 a0_4, .int .i64 a0_5, .int .i64 a0_6, .slice A0_7 l0_7.length c0_7, .slice A0_8 l0_8.length c0_8]) (t := 25) zq5 ?_; intro gb451 hg w4 hbox hb; have BK451 := Aside0.mk (hbox); have GW451 := zgs HB hg; have GE451 := zgs HB hg; replace HB := zbs HB hb; clear hb hbox hg) | ((with_reducible refine gate_dst (N := 4) rfl ?_); refine box_event (by rfl) (N := 4) (by rfl) (cs := #[.int .i64 a1_0, .int .i64 a1_1, .int .i64 a1_2, .int .i64 a1_3, .int .i64 a1_4, .int .i64 a1_5, .int .i64 a1_6]) (t := 29) zq5 ?_; intro gb452 hg w5 hbox hb; have BK452 := Aside0.mk (hbox); have GW452 := zgs HB hg; have GE452 := zgs HB hg; have NB451_452 := znp BK451 hg; have NB452_451 := znq BK451 hg; replace BK451 := zbb BK451 hb; replace HB := zbs HB hb; clear hb hbox hg) | ((with_reducible refine gate_dst (N := 5) rfl ?_); refine box_event (by rfl) (N := 5) (by rfl) (cs := #[.int .i64 a2_0, .int .i64 a2_1, .int .i64 a2_2, .int .i64 a2_3]) (t := 31) zq5 ?_; intro gb453 hg w6 hbox hb; have BK453 := Aside0.mk (hbox); have GW453 := zgs HB hg; have GE453 := zgs HB hg; have NB451_453 := znp BK451 hg; have NB453_451 := znq BK451 hg; have NB452_453 := znp BK452 hg; have NB453_452 := znq BK452 hg; replace BK451 := zbb BK451 hb; replace BK452 := zbb BK452 hb; replace HB := zbs HB hb; clear hb hbox hg))
 go_loopg [7] k (fun kq v7 w' => ∃ (x7_1 : Int), v7 = .int .i64 x7_1 ∧ Aside0 (isobathref03_safe.l0 kq x7_1 a0_0 a0_1 a0_2 a0_3 a0_4 a0_5 a0_6 l0_7 l0_8 a1_0 a1_1 a1_2 a1_3 a1_4 a1_5 a1_6 a2_0 a2_1 a2_2 a2_3 = some r) ∧ Aside0 (kq ≤ k) ∧ Aside0 (w'.heap[gb451]? = some (.cells #[.int .i64 a0_0, .int .i64 a0_1, .int .i64 a0_2, .int .i64 a0_3, .int .i64 a0_4, .int .i64 a0_5, .int .i64 a0_6, (.slice A0_7 l0_7.length c0_7), (.slice A0_8 l0_8.length c0_8)] 25 (0, 0))) ∧ Aside0 (w'.heap[gb452]? = some (.cells #[.int .i64 a1_0, .int .i64 a1_1, .int .i64 a1_2, .int .i64 a1_3, .int .i64 a1_4, .int .i64 a1_5, .int .i64 a1_6] 29 (0, 0))) ∧ Aside0 (w'.heap[gb453]? = some (.cells #[.int .i64 a2_0, .int .i64 a2_1, .int .i64 a2_2, .int .i64 a2_3] 31 (0, 0))) ∧ Aside0 (Below w.heap.size w w'))
 case atStart => exact ⟨(0), zq2, H', ⟨Nat.le_refl _⟩, ⟨by (with_reducible repeat (first | refine blk_drewN ?_ _ | refine blk_drew ?_ | refine blk_alloc ?_ _)); exact BK451.out⟩, ⟨by (with_reducible repeat (first | refine blk_drewN ?_ _ | refine blk_drew ?_ | refine blk_alloc ?_ _)); exact BK452.out⟩, ⟨by (with_reducible repeat (first | refine blk_drewN ?_ _ | refine blk_drew ?_ | refine blk_alloc ?_ _)); exact BK453.out⟩, ⟨zbz⟩⟩
 case round =>
  clear H'
  try clear c1
  try clear p2
  obtain ⟨x7_1, rfl, HA, HK1, BK451, BK452, BK453, HB⟩ := hrel
  cases gk with
  | zero => exact absurd HA.out (by simp [isobathref03_safe.l0])
  | succ k1 =>
   have H := HA.out
   clear HA
   simp only [isobathref03_safe.l0] at H
   by_cases c7 : x7_1 < (wrap64 (a0_0 * a0_1))
   ·rw [if_pos c7] at H
    have c7b0 : decide (x7_1 < (wrap64 (a0_0 * a0_1))) = true := decide_eq_true c7
    clear c7
    by_cases c8 : 0 ≤ x7_1
    ·rw [if_pos c8] at H
     have c8b0 : decide (0 ≤ x7_1) = true := decide_eq_true c8
     clear c8
     by_cases c9 : x7_1 < (l0_7.length : Int)
     ·rw [if_pos c9] at H
      have c9b0 : decide (x7_1 < (l0_7.length : Int)) = true := decide_eq_true c9
      clear c9
      obtain ⟨bq10, hbq10⟩ : ∃ b_ : Bool, b_ = (rdOf false l0_7 x7_1) := ⟨_, rfl⟩
      replace H : (if bq10 = true then ((isobathref03_Grown.f k1 a0_0 a0_1 a0_2 a0_3 a0_4 a0_5 a0_6 l0_7 l0_8 a1_0 a1_1 a1_2 a1_3 a1_4 a1_5 a1_6 a2_0 a2_1 a2_2 a2_3).bind fun bt455 => ((isobathref03_Cell.f a0_0 a0_1 a0_2 a0_3 a0_4 a0_5 a0_6 l0_7 l0_8 x7_1).bind fun bt459 => ((isobathref03_touches.f bt455.1 bt455.2.1 bt455.2.2.1 bt455.2.2.2 bt459.1 bt459.2.1 bt459.2.2.1 bt459.2.2.2).bind fun t463 => (if t463 = true then (some false) else (isobathref03_safe.l0 k1 (wrap64 (x7_1 + 1)) a0_0 a0_1 a0_2 a0_3 a0_4 a0_5 a0_6 l0_7 l0_8 a1_0 a1_1 a1_2 a1_3 a1_4 a1_5 a1_6 a2_0 a2_1 a2_2 a2_3))))) else (isobathref03_safe.l0 k1 (wrap64 (x7_1 + 1)) a0_0 a0_1 a0_2 a0_3 a0_4 a0_5 a0_6 l0_7 l0_8 a1_0 a1_1 a1_2 a1_3 a1_4 a1_5 a1_6 a2_0 a2_1 a2_2 a2_3)) = some r := by rw [← hbq10] at H; exact H
      have Nbq10 := Aside0.mk hbq10
      clear hbq10
      by_cases c11 : bq10 = true
      ·subst c11
       have H1 : ((isobathref03_Grown.f k1 a0_0 a0_1 a0_2 a0_3 a0_4 a0_5 a0_6 l0_7 l0_8 a1_0 a1_1 a1_2 a1_3 a1_4 a1_5 a1_6 a2_0 a2_1 a2_2 a2_3).bind fun bt455 => ((isobathref03_Cell.f a0_0 a0_1 a0_2 a0_3 a0_4 a0_5 a0_6 l0_7 l0_8 x7_1).bind fun bt459 => ((isobathref03_touches.f bt455.1 bt455.2.1 bt455.2.2.1 bt455.2.2.2 bt459.1 bt459.2.1 bt459.2.2.1 bt459.2.2.2).bind fun t463 => (if t463 = true then (some false) else (isobathref03_safe.l0 k1 (wrap64 (x7_1 + 1)) a0_0 a0_1 a0_2 a0_3 a0_4 a0_5 a0_6 l0_7 l0_8 a1_0 a1_1 a1_2 a1_3 a1_4 a1_5 a1_6 a2_0 a2_1 a2_2 a2_3))))) = some r := by rw [if_pos rfl] at H; exact H
       clear H
       have H := H1
       clear H1
       replace H := Option.bind_eq_some_iff.mp H
       obtain ⟨⟨t455, t456, t457, t458⟩, A120, H⟩ := H
       replace H : ((isobathref03_Cell.f a0_0 a0_1 a0_2 a0_3 a0_4 a0_5 a0_6 l0_7 l0_8 x7_1).bind fun bt459 => ((isobathref03_touches.f t455 t456 t457 t458 bt459.1 bt459.2.1 bt459.2.2.1 bt459.2.2.2).bind fun t463 => (if t463 = true then (some false) else (isobathref03_safe.l0 k1 (wrap64 (x7_1 + 1)) a0_0 a0_1 a0_2 a0_3 a0_4 a0_5 a0_6 l0_7 l0_8 a1_0 a1_1 a1_2 a1_3 a1_4 a1_5 a1_6 a2_0 a2_1 a2_2 a2_3)))) = some r := H
       have A12 := Aside0.mk A120
       clear A120
       replace H := Option.bind_eq_some_iff.mp H
       obtain ⟨⟨t459, t460, t461, t462⟩, A130, H⟩ := H
       replace H : ((isobathref03_touches.f t455 t456 t457 t458 t459 t460 t461 t462).bind fun t463 => (if t463 = true then (some false) else (isobathref03_safe.l0 k1 (wrap64 (x7_1 + 1)) a0_0 a0_1 a0_2 a0_3 a0_4 a0_5 a0_6 l0_7 l0_8 a1_0 a1_1 a1_2 a1_3 a1_4 a1_5 a1_6 a2_0 a2_1 a2_2 a2_3))) = some r := H
       have A13 := Aside0.mk A130
       clear A130
       replace H := Option.bind_eq_some_iff.mp H
       obtain ⟨t463, A140, H⟩ := H
       replace H : (if t463 = true then (some false) else (isobathref03_safe.l0 k1 (wrap64 (x7_1 + 1)) a0_0 a0_1 a0_2 a0_3 a0_4 a0_5 a0_6 l0_7 l0_8 a1_0 a1_1 a1_2 a1_3 a1_4 a1_5 a1_6 a2_0 a2_1 a2_2 a2_3)) = some r := H
       have A14 := Aside0.mk A140
       clear A140
       by_cases c15 : t463 = true
       ·subst c15
        have H1 : (some false) = some r := by rw [if_pos rfl] at H; exact H
        clear H
        have H := H1
        clear H1
        obtain rfl := Option.some.inj H
        have hnb16 := NB451_452.out
        have hnc16 := NB452_451.out
        have hnb17 := NB451_453.out
        have hnc17 := NB453_451.out
        obtain ⟨hcz18_0, hcz18_1, hcz18_2, hcz18_3, hcz18_4, hcz18_5, hcz18_6, hcz18_7, hcz18_8, hfz18_0, hfz18_1, hfz18_2, hfz18_3, hfz18_4, hfz18_5, hfz18_6, hfz18_7, hfz18_8⟩ := zce9 BK451.out
        try go_wp2
        replace BK451 := Aside0.mk (blk_drew BK451.out)
        replace BK452 := Aside0.mk (blk_drew BK452.out)
        replace BK453 := Aside0.mk (blk_drew BK453.out)
        replace HB := Aside0.mk (below_drew1 HB.out)
        have p454 : 0 ≤ (x7_1 : Int) := of_decide_eq_true zq4
        have q454 : x7_1 < (l0_7.length : Int) := of_decide_eq_true zq4
        obtain ⟨ad454, e454, hx454_0⟩ := Kd.at_bool HR0_7.out x7_1 p454 q454
        (try rw [← Nbq10.out] at hx454_0)
        have hw454_0 := hx454_0
        cases e454
        replace hx454_0 := (HB.out.cell (World.block_lt_of_cell? w _ hx454_0)).trans hx454_0
        replace p454 := eq_true p454
        replace q454 := eq_true q454
        refine start_ (n := 15) (S := fun w' => w'.cell? ⟨gb451, 0, none⟩ = some (.int .i64 a0_0) ∧ w'.cell? ⟨gb451, 1, none⟩ = some (.int .i64 a0_1) ∧ w'.cell? ⟨gb451, 2, none⟩ = some (.int .i64 a0_2) ∧ w'.cell? ⟨gb451, 3, none⟩ = some (.int .i64 a0_3) ∧ w'.cell? ⟨gb451, 4, none⟩ = some (.int .i64 a0_4) ∧ w'.cell? ⟨gb451, 5, none⟩ = some (.int .i64 a0_5) ∧ w'.cell? ⟨gb451, 6, none⟩ = some (.int .i64 a0_6) ∧ w'.cell? ⟨gb451, 7, none⟩ = some (.slice (some ad454) l0_7.length c0_7) ∧ w'.cell? ⟨gb451, 8, none⟩ = some (.slice A0_8 l0_8.length c0_8) ∧ w'.cell? ⟨gb452, 0, none⟩ = some (.int .i64 a1_0) ∧ w'.cell? ⟨gb452, 1, none⟩ = some (.int .i64 a1_1) ∧ w'.cell? ⟨gb452, 2, none⟩ = some (.int .i64 a1_2) ∧ w'.cell? ⟨gb452, 3, none⟩ = some (.int .i64 a1_3) ∧ w'.cell? ⟨gb452, 4, none⟩ = some (.int .i64 a1_4) ∧ w'.cell? ⟨gb452, 5, none⟩ = some (.int .i64 a1_5) ∧ w'.cell? ⟨gb452, 6, none⟩ = some (.int .i64 a1_6) ∧ w'.cell? ⟨gb453, 0, none⟩ = some (.int .i64 a2_0) ∧ w'.cell? ⟨gb453, 1, none⟩ = some (.int .i64 a2_1) ∧ w'.cell? ⟨gb453, 2, none⟩ = some (.int .i64 a2_2) ∧ w'.cell? ⟨gb453, 3, none⟩ = some (.int .i64 a2_3) ∧ w'.cell? (ad454.add (x7_1).toNat) = some (.bool true)) (ds := []) #[false, false, false, false, false, false, false, false, false, false, false, false, false, false, false] zq1 rfl rfl (zca9 BK451.out ⟨(blk_cell BK452.out 0).trans rfl, (blk_cell BK452.out 1).trans rfl, (blk_cell BK452.out 2).trans rfl, (blk_cell BK452.out 3).trans rfl, (blk_cell BK452.out 4).trans rfl, (blk_cell BK452.out 5).trans rfl, (blk_cell BK452.out 6).trans rfl, (blk_cell BK453.out 0).trans rfl, (blk_cell BK453.out 1).trans rfl, (blk_cell BK453.out 2).trans rfl, (blk_cell BK453.out 3).trans rfl, ((HB.out.cell (World.block_lt_of_cell? w _ hw454_0)).trans hw454_0)⟩) (fun hHeld => ?_); refine with_tabW isobathref03_safe.tab4 isobathref03_safe.bits4 (fun HT_ HW_ => ?_)
        generalize wr.drew = w19 at BK451 BK452 BK453 HB hx454_0 hHeld ⊢
        refine zpz (i := 0) (N := some 17) (any_of HT_.out zq1) ?_
        refine zpz (i := 2) (N := some 19) (any_of HT_.out zq1) ?_
        refine ztz (i := 1) (N := some 18) (take_ofW HT_.out HW_.out zq1) hHeld ?_
        refine zpz (i := 3) (N := some 20) (any_of HT_.out zq1) ?_
        refine ztz (i := 4) (N := some 21) (take_ofW HT_.out HW_.out zq1) hHeld ?_
        refine zpz (i := 5) (N := some 22) (any_of HT_.out zq1) ?_
        refine zpz (i := 11) (N := some 28) (any_of HT_.out zq1) ?_
        refine ztz (i := 6) (N := some 23) (take_ofW HT_.out HW_.out zq1) hHeld ?_
        refine ztz (i := 7) (N := some 24) (take_ofW HT_.out HW_.out zq1) hHeld ?_
        refine ztz (i := 8) (N := some 25) (take_ofW HT_.out HW_.out zq1) hHeld ?_
        refine ztz (i := 10) (N := some 27) (take_ofW HT_.out HW_.out zq1) hHeld ?_
        refine one_ (i := 9) (N := some 26) #[true, true, true, true, true, true, true, true, true, true, true, true, false, false, false] rfl rfl (one_of HT_.out zq1) (by decide) (fun K hK => ?_)
        refine goes_ Try.func133 zq1 rfl #[.agg #[.int .i64 a0_0, .int .i64 a0_1, .int .i64 a0_2, .int .i64 a0_3, .int .i64 a0_4, .int .i64 a0_5, .int .i64 a0_6, .slice (some ad454) l0_7.length c0_7, .slice A0_8 l0_8.length c0_8], .agg #[.int .i64 a1_0, .int .i64 a1_1, .int .i64 a1_2, .int .i64 a1_3, .int .i64 a1_4, .int .i64 a1_5, .int .i64 a1_6], .agg #[.int .i64 a2_0, .int .i64 a2_1, .int .i64 a2_2, .int .i64 a2_3]] (by rfl) rfl rfl zq8 ?_
        with_reducible refine (isobathref03_Grown.calls k1 a0_0 a0_1 a0_2 a0_3 a0_4 a0_5 a0_6 _ _ l0_7 _ _ l0_8 a1_0 a1_1 a1_2 a1_3 a1_4 a1_5 a1_6 a2_0 a2_1 a2_2 a2_3 t455 t456 t457 t458 _ ?side1 ?side2 ?side3 ?side4 A12.out).mono ?_
        (case side1 => repeat (first | exact (Kd.C_below HR0_7.out HB.out) | (with_reducible refine Kd.C_alloc ?_ _) | (with_reducible refine Kd.C_drewN ?_ _) | (with_reducible refine Kd.C_drew ?_)))
        (case side2 => exact HC0_7.out)
        (case side3 => repeat (first | exact (Kd.C_below HR0_8.out HB.out) | (with_reducible refine Kd.C_alloc ?_ _) | (with_reducible refine Kd.C_drewN ?_ _) | (with_reducible refine Kd.C_drew ?_)))
        (case side4 => exact HC0_8.out)
        rintro e w20 ⟨rfl, hb⟩
        refine ⟨_, rfl, ?_⟩
        replace BK451 := zbb BK451 hb
        replace BK452 := zbb BK452 hb
        replace BK453 := zbb BK453 hb
        replace HB := zbs HB hb
        (try clear hb)
        (try clear hb2)
        (try clear hk)
        (try clear hi)
        refine hK.out _ _ (zca9 BK451.out ⟨(blk_cell BK452.out 0).trans rfl, (blk_cell BK452.out 1).trans rfl, (blk_cell BK452.out 2).trans rfl, (blk_cell BK452.out 3).trans rfl, (blk_cell BK452.out 4).trans rfl, (blk_cell BK452.out 5).trans rfl, (blk_cell BK452.out 6).trans rfl, (blk_cell BK453.out 0).trans rfl, (blk_cell BK453.out 1).trans rfl, (blk_cell BK453.out 2).trans rfl, (blk_cell BK453.out 3).trans rfl, ((HB.out.cell (World.block_lt_of_cell? w _ hw454_0)).trans hw454_0)⟩) (fun hHeld => ?_)
        clear hK K
        refine norm_ zq52 ?_
        refine one_ (i := 12) (N := some 29) #[true, true, true, true, true, true, true, true, true, true, true, true, true, false, false] rfl rfl (one_of HT_.out zq1) (by decide) (fun K hK => ?_)
        refine goes_ Try.func42 zq1 rfl #[.agg #[.int .i64 a0_0, .int .i64 a0_1, .int .i64 a0_2, .int .i64 a0_3, .int .i64 a0_4, .int .i64 a0_5, .int .i64 a0_6, .slice (some ad454) l0_7.length c0_7, .slice A0_8 l0_8.length c0_8], .int .i64 x7_1] (by rfl) rfl rfl zq8 ?_
        with_reducible refine (isobathref03_Cell.calls a0_0 a0_1 a0_2 a0_3 a0_4 a0_5 a0_6 _ _ l0_7 _ _ l0_8 x7_1 t459 t460 t461 t462 _ ?side1 ?side2 ?side3 ?side4 A13.out).mono ?_
        (case side1 => repeat (first | exact (Kd.C_below HR0_7.out HB.out) | (with_reducible refine Kd.C_alloc ?_ _) | (with_reducible refine Kd.C_drewN ?_ _) | (with_reducible refine Kd.C_drew ?_)))
        (case side2 => exact HC0_7.out)
        (case side3 => repeat (first | exact (Kd.C_below HR0_8.out HB.out) | (with_reducible refine Kd.C_alloc ?_ _) | (with_reducible refine Kd.C_drewN ?_ _) | (with_reducible refine Kd.C_drew ?_)))
        (case side4 => exact HC0_8.out)
        rintro e w21 ⟨rfl, hb⟩
        refine ⟨_, rfl, ?_⟩
        replace BK451 := zbb BK451 hb
        replace BK452 := zbb BK452 hb
        replace BK453 := zbb BK453 hb
        replace HB := zbs HB hb
        (try clear hb)
        (try clear hb2)
        (try clear hk)
        (try clear hi)
        refine hK.out _ _ (zca9 BK451.out ⟨(blk_cell BK452.out 0).trans rfl, (blk_cell BK452.out 1).trans rfl, (blk_cell BK452.out 2).trans rfl, (blk_cell BK452.out 3).trans rfl, (blk_cell BK452.out 4).trans rfl, (blk_cell BK452.out 5).trans rfl, (blk_cell BK452.out 6).trans rfl, (blk_cell BK453.out 0).trans rfl, (blk_cell BK453.out 1).trans rfl, (blk_cell BK453.out 2).trans rfl, (blk_cell BK453.out 3).trans rfl, ((HB.out.cell (World.block_lt_of_cell? w _ hw454_0)).trans hw454_0)⟩) (fun hHeld => ?_)
        clear hK K
        refine norm_ zq25 ?_
        refine one_ (i := 13) (N := some 30) #[true, true, true, true, true, true, true, true, true, true, true, true, true, true, false] rfl rfl (one_of HT_.out zq1) (by decide) (fun K hK => ?_)
        refine goes_ Try.func104 zq1 rfl #[.agg #[.int .i64 t455, .int .i64 t456, .int .i64 t457, .int .i64 t458], .agg #[.int .i64 t459, .int .i64 t460, .int .i64 t461, .int .i64 t462]] (by rfl) rfl rfl zq8 ?_
        with_reducible refine (isobathref03_touches.calls t455 t456 t457 t458 t459 t460 t461 t462 true _ A14.out).mono ?_
        rintro e w22 ⟨rfl, hb⟩
        refine ⟨_, rfl, ?_⟩
        replace BK451 := zbb BK451 hb
        replace BK452 := zbb BK452 hb
        replace BK453 := zbb BK453 hb
        replace HB := zbs HB hb
        (try clear hb)
        (try clear hb2)
        (try clear hk)
        (try clear hi)
        refine hK.out _ _ (zca9 BK451.out ⟨(blk_cell BK452.out 0).trans rfl, (blk_cell BK452.out 1).trans rfl, (blk_cell BK452.out 2).trans rfl, (blk_cell BK452.out 3).trans rfl, (blk_cell BK452.out 4).trans rfl, (blk_cell BK452.out 5).trans rfl, (blk_cell BK452.out 6).trans rfl, (blk_cell BK453.out 0).trans rfl, (blk_cell BK453.out 1).trans rfl, (blk_cell BK453.out 2).trans rfl, (blk_cell BK453.out 3).trans rfl, ((HB.out.cell (World.block_lt_of_cell? w _ hw454_0)).trans hw454_0)⟩) (fun hHeld => ?_)
        clear hK K
        refine norm_ zq53 ?_
        refine zpz (i := 14) (N := some 31) (any_of HT_.out zq1) ?_
        refine done_ (done_of HT_.out zq1) ?_
        try go_wp2
        go_ret
        exact ⟨zq6, zbz⟩
       ·replace c15 := Bool.eq_false_iff.mpr c15
        subst c15
        have H1 : (isobathref03_safe.l0 k1 (wrap64 (x7_1 + 1)) a0_0 a0_1 a0_2 a0_3 a0_4 a0_5 a0_6 l0_7 l0_8 a1_0 a1_1 a1_2 a1_3 a1_4 a1_5 a1_6 a2_0 a2_1 a2_2 a2_3) = some r := by rw [if_neg (show ¬ (false = true) by decide)] at H; exact H
        clear H
        have H := H1
        clear H1
        have H' := Aside0.mk H
        clear H
        have hnb23 := NB451_452.out
        have hnc23 := NB452_451.out
        have hnb24 := NB451_453.out
        have hnc24 := NB453_451.out
        obtain ⟨hcz25_0, hcz25_1, hcz25_2, hcz25_3, hcz25_4, hcz25_5, hcz25_6, hcz25_7, hcz25_8, hfz25_0, hfz25_1, hfz25_2, hfz25_3, hfz25_4, hfz25_5, hfz25_6, hfz25_7, hfz25_8⟩ := zce9 BK451.out
        try go_wp2
        replace BK451 := Aside0.mk (blk_drew BK451.out)
        replace BK452 := Aside0.mk (blk_drew BK452.out)
        replace BK453 := Aside0.mk (blk_drew BK453.out)
        replace HB := Aside0.mk (below_drew1 HB.out)
        have p454 : 0 ≤ (x7_1 : Int) := of_decide_eq_true zq4
        have q454 : x7_1 < (l0_7.length : Int) := of_decide_eq_true zq4
        obtain ⟨ad454, e454, hx454_0⟩ := Kd.at_bool HR0_7.out x7_1 p454 q454
        (try rw [← Nbq10.out] at hx454_0)
        have hw454_0 := hx454_0
        cases e454
        replace hx454_0 := (HB.out.cell (World.block_lt_of_cell? w _ hx454_0)).trans hx454_0
        replace p454 := eq_true p454
        replace q454 := eq_true q454
        refine start_ (n := 15) (S := fun w' => w'.cell? ⟨gb451, 0, none⟩ = some (.int .i64 a0_0) ∧ w'.cell? ⟨gb451, 1, none⟩ = some (.int .i64 a0_1) ∧ w'.cell? ⟨gb451, 2, none⟩ = some (.int .i64 a0_2) ∧ w'.cell? ⟨gb451, 3, none⟩ = some (.int .i64 a0_3) ∧ w'.cell? ⟨gb451, 4, none⟩ = some (.int .i64 a0_4) ∧ w'.cell? ⟨gb451, 5, none⟩ = some (.int .i64 a0_5) ∧ w'.cell? ⟨gb451, 6, none⟩ = some (.int .i64 a0_6) ∧ w'.cell? ⟨gb451, 7, none⟩ = some (.slice (some ad454) l0_7.length c0_7) ∧ w'.cell? ⟨gb451, 8, none⟩ = some (.slice A0_8 l0_8.length c0_8) ∧ w'.cell? ⟨gb452, 0, none⟩ = some (.int .i64 a1_0) ∧ w'.cell? ⟨gb452, 1, none⟩ = some (.int .i64 a1_1) ∧ w'.cell? ⟨gb452, 2, none⟩ = some (.int .i64 a1_2) ∧ w'.cell? ⟨gb452, 3, none⟩ = some (.int .i64 a1_3) ∧ w'.cell? ⟨gb452, 4, none⟩ = some (.int .i64 a1_4) ∧ w'.cell? ⟨gb452, 5, none⟩ = some (.int .i64 a1_5) ∧ w'.cell? ⟨gb452, 6, none⟩ = some (.int .i64 a1_6) ∧ w'.cell? ⟨gb453, 0, none⟩ = some (.int .i64 a2_0) ∧ w'.cell? ⟨gb453, 1, none⟩ = some (.int .i64 a2_1) ∧ w'.cell? ⟨gb453, 2, none⟩ = some (.int .i64 a2_2) ∧ w'.cell? ⟨gb453, 3, none⟩ = some (.int .i64 a2_3) ∧ w'.cell? (ad454.add (x7_1).toNat) = some (.bool true)) (ds := []) #[false, false, false, false, false, false, false, false, false, false, false, false, false, false, false] zq1 rfl rfl (zca9 BK451.out ⟨(blk_cell BK452.out 0).trans rfl, (blk_cell BK452.out 1).trans rfl, (blk_cell BK452.out 2).trans rfl, (blk_cell BK452.out 3).trans rfl, (blk_cell BK452.out 4).trans rfl, (blk_cell BK452.out 5).trans rfl, (blk_cell BK452.out 6).trans rfl, (blk_cell BK453.out 0).trans rfl, (blk_cell BK453.out 1).trans rfl, (blk_cell BK453.out 2).trans rfl, (blk_cell BK453.out 3).trans rfl, ((HB.out.cell (World.block_lt_of_cell? w _ hw454_0)).trans hw454_0)⟩) (fun hHeld => ?_); refine with_tabW isobathref03_safe.tab4 isobathref03_safe.bits4 (fun HT_ HW_ => ?_)
        generalize wr.drew = w26 at BK451 BK452 BK453 HB hx454_0 hHeld ⊢
        refine zpz (i := 0) (N := some 17) (any_of HT_.out zq1) ?_
        refine zpz (i := 2) (N := some 19) (any_of HT_.out zq1) ?_
        refine ztz (i := 1) (N := some 18) (take_ofW HT_.out HW_.out zq1) hHeld ?_
        refine zpz (i := 3) (N := some 20) (any_of HT_.out zq1) ?_
        refine ztz (i := 4) (N := some 21) (take_ofW HT_.out HW_.out zq1) hHeld ?_
        refine zpz (i := 5) (N := some 22) (any_of HT_.out zq1) ?_
        refine zpz (i := 11) (N := some 28) (any_of HT_.out zq1) ?_
        refine ztz (i := 6) (N := some 23) (take_ofW HT_.out HW_.out zq1) hHeld ?_
        refine ztz (i := 7) (N := some 24) (take_ofW HT_.out HW_.out zq1) hHeld ?_
        refine ztz (i := 8) (N := some 25) (take_ofW HT_.out HW_.out zq1) hHeld ?_
        refine ztz (i := 10) (N := some 27) (take_ofW HT_.out HW_.out zq1) hHeld ?_
        refine one_ (i := 9) (N := some 26) #[true, true, true, true, true, true, true, true, true, true, true, true, false, false, false] rfl rfl (one_of HT_.out zq1) (by decide) (fun K hK => ?_)
        refine goes_ Try.func133 zq1 rfl #[.agg #[.int .i64 a0_0, .int .i64 a0_1, .int .i64 a0_2, .int .i64 a0_3, .int .i64 a0_4, .int .i64 a0_5, .int .i64 a0_6, .slice (some ad454) l0_7.length c0_7, .slice A0_8 l0_8.length c0_8], .agg #[.int .i64 a1_0, .int .i64 a1_1, .int .i64 a1_2, .int .i64 a1_3, .int .i64 a1_4, .int .i64 a1_5, .int .i64 a1_6], .agg #[.int .i64 a2_0, .int .i64 a2_1, .int .i64 a2_2, .int .i64 a2_3]] (by rfl) rfl rfl zq8 ?_
        with_reducible refine (isobathref03_Grown.calls k1 a0_0 a0_1 a0_2 a0_3 a0_4 a0_5 a0_6 _ _ l0_7 _ _ l0_8 a1_0 a1_1 a1_2 a1_3 a1_4 a1_5 a1_6 a2_0 a2_1 a2_2 a2_3 t455 t456 t457 t458 _ ?side1 ?side2 ?side3 ?side4 A12.out).mono ?_
        (case side1 => repeat (first | exact (Kd.C_below HR0_7.out HB.out) | (with_reducible refine Kd.C_alloc ?_ _) | (with_reducible refine Kd.C_drewN ?_ _) | (with_reducible refine Kd.C_drew ?_)))
        (case side2 => exact HC0_7.out)
        (case side3 => repeat (first | exact (Kd.C_below HR0_8.out HB.out) | (with_reducible refine Kd.C_alloc ?_ _) | (with_reducible refine Kd.C_drewN ?_ _) | (with_reducible refine Kd.C_drew ?_)))
        (case side4 => exact HC0_8.out)
        rintro e w27 ⟨rfl, hb⟩
        refine ⟨_, rfl, ?_⟩
        replace BK451 := zbb BK451 hb
        replace BK452 := zbb BK452 hb
        replace BK453 := zbb BK453 hb
        replace HB := zbs HB hb
        (try clear hb)
        (try clear hb2)
        (try clear hk)
        (try clear hi)
        refine hK.out _ _ (zca9 BK451.out ⟨(blk_cell BK452.out 0).trans rfl, (blk_cell BK452.out 1).trans rfl, (blk_cell BK452.out 2).trans rfl, (blk_cell BK452.out 3).trans rfl, (blk_cell BK452.out 4).trans rfl, (blk_cell BK452.out 5).trans rfl, (blk_cell BK452.out 6).trans rfl, (blk_cell BK453.out 0).trans rfl, (blk_cell BK453.out 1).trans rfl, (blk_cell BK453.out 2).trans rfl, (blk_cell BK453.out 3).trans rfl, ((HB.out.cell (World.block_lt_of_cell? w _ hw454_0)).trans hw454_0)⟩) (fun hHeld => ?_)
        clear hK K
        refine norm_ zq52 ?_
        refine one_ (i := 12) (N := some 29) #[true, true, true, true, true, true, true, true, true, true, true, true, true, false, false] rfl rfl (one_of HT_.out zq1) (by decide) (fun K hK => ?_)
        refine goes_ Try.func42 zq1 rfl #[.agg #[.int .i64 a0_0, .int .i64 a0_1, .int .i64 a0_2, .int .i64 a0_3, .int .i64 a0_4, .int .i64 a0_5, .int .i64 a0_6, .slice (some ad454) l0_7.length c0_7, .slice A0_8 l0_8.length c0_8], .int .i64 x7_1] (by rfl) rfl rfl zq8 ?_
        with_reducible refine (isobathref03_Cell.calls a0_0 a0_1 a0_2 a0_3 a0_4 a0_5 a0_6 _ _ l0_7 _ _ l0_8 x7_1 t459 t460 t461 t462 _ ?side1 ?side2 ?side3 ?side4 A13.out).mono ?_
        (case side1 => repeat (first | exact (Kd.C_below HR0_7.out HB.out) | (with_reducible refine Kd.C_alloc ?_ _) | (with_reducible refine Kd.C_drewN ?_ _) | (with_reducible refine Kd.C_drew ?_)))
        (case side2 => exact HC0_7.out)
        (case side3 => repeat (first | exact (Kd.C_below HR0_8.out HB.out) | (with_reducible refine Kd.C_alloc ?_ _) | (with_reducible refine Kd.C_drewN ?_ _) | (with_reducible refine Kd.C_drew ?_)))
        (case side4 => exact HC0_8.out)
        rintro e w28 ⟨rfl, hb⟩
        refine ⟨_, rfl, ?_⟩
        replace BK451 := zbb BK451 hb
        replace BK452 := zbb BK452 hb
        replace BK453 := zbb BK453 hb
        replace HB := zbs HB hb
        (try clear hb)
        (try clear hb2)
        (try clear hk)
        (try clear hi)
        refine hK.out _ _ (zca9 BK451.out ⟨(blk_cell BK452.out 0).trans rfl, (blk_cell BK452.out 1).trans rfl, (blk_cell BK452.out 2).trans rfl, (blk_cell BK452.out 3).trans rfl, (blk_cell BK452.out 4).trans rfl, (blk_cell BK452.out 5).trans rfl, (blk_cell BK452.out 6).trans rfl, (blk_cell BK453.out 0).trans rfl, (blk_cell BK453.out 1).trans rfl, (blk_cell BK453.out 2).trans rfl, (blk_cell BK453.out 3).trans rfl, ((HB.out.cell (World.block_lt_of_cell? w _ hw454_0)).trans hw454_0)⟩) (fun hHeld => ?_)
        clear hK K
        refine norm_ zq25 ?_
        refine one_ (i := 13) (N := some 30) #[true, true, true, true, true, true, true, true, true, true, true, true, true, true, false] rfl rfl (one_of HT_.out zq1) (by decide) (fun K hK => ?_)
        refine goes_ Try.func104 zq1 rfl #[.agg #[.int .i64 t455, .int .i64 t456, .int .i64 t457, .int .i64 t458], .agg #[.int .i64 t459, .int .i64 t460, .int .i64 t461, .int .i64 t462]] (by rfl) rfl rfl zq8 ?_
        with_reducible refine (isobathref03_touches.calls t455 t456 t457 t458 t459 t460 t461 t462 false _ A14.out).mono ?_
        rintro e w29 ⟨rfl, hb⟩
        refine ⟨_, rfl, ?_⟩
        replace BK451 := zbb BK451 hb
        replace BK452 := zbb BK452 hb
        replace BK453 := zbb BK453 hb
        replace HB := zbs HB hb
        (try clear hb)
        (try clear hb2)
        (try clear hk)
        (try clear hi)
        refine hK.out _ _ (zca9 BK451.out ⟨(blk_cell BK452.out 0).trans rfl, (blk_cell BK452.out 1).trans rfl, (blk_cell BK452.out 2).trans rfl, (blk_cell BK452.out 3).trans rfl, (blk_cell BK452.out 4).trans rfl, (blk_cell BK452.out 5).trans rfl, (blk_cell BK452.out 6).trans rfl, (blk_cell BK453.out 0).trans rfl, (blk_cell BK453.out 1).trans rfl, (blk_cell BK453.out 2).trans rfl, (blk_cell BK453.out 3).trans rfl, ((HB.out.cell (World.block_lt_of_cell? w _ hw454_0)).trans hw454_0)⟩) (fun hHeld => ?_)
        clear hK K
        refine norm_ zq53 ?_
        refine zpz (i := 14) (N := some 31) (any_of HT_.out zq1) ?_
        refine done_ (done_of HT_.out zq1) ?_
        try go_wp2
        go_roundg k1
        case measure => have := HK1.out; omega
        case rel => exact ⟨(wrap64 (x7_1 + 1)), zq2, H', ⟨zq7⟩, ⟨by (with_reducible repeat (first | refine blk_drewN ?_ _ | refine blk_drew ?_ | refine blk_alloc ?_ _)); exact BK451.out⟩, ⟨by (with_reducible repeat (first | refine blk_drewN ?_ _ | refine blk_drew ?_ | refine blk_alloc ?_ _)); exact BK452.out⟩, ⟨by (with_reducible repeat (first | refine blk_drewN ?_ _ | refine blk_drew ?_ | refine blk_alloc ?_ _)); exact BK453.out⟩, ⟨zbz⟩⟩
      ·replace c11 := Bool.eq_false_iff.mpr c11
       subst c11
       have H1 : (isobathref03_safe.l0 k1 (wrap64 (x7_1 + 1)) a0_0 a0_1 a0_2 a0_3 a0_4 a0_5 a0_6 l0_7 l0_8 a1_0 a1_1 a1_2 a1_3 a1_4 a1_5 a1_6 a2_0 a2_1 a2_2 a2_3) = some r := by rw [if_neg (show ¬ (false = true) by decide)] at H; exact H
       clear H
       have H := H1
       clear H1
       have H' := Aside0.mk H
       clear H
       have hnb30 := NB451_452.out
       have hnc30 := NB452_451.out
       have hnb31 := NB451_453.out
       have hnc31 := NB453_451.out
       obtain ⟨hcz32_0, hcz32_1, hcz32_2, hcz32_3, hcz32_4, hcz32_5, hcz32_6, hcz32_7, hcz32_8, hfz32_0, hfz32_1, hfz32_2, hfz32_3, hfz32_4, hfz32_5, hfz32_6, hfz32_7, hfz32_8⟩ := zce9 BK451.out
       try go_wp2
       replace BK451 := Aside0.mk (blk_drew BK451.out)
       replace BK452 := Aside0.mk (blk_drew BK452.out)
       replace BK453 := Aside0.mk (blk_drew BK453.out)
       replace HB := Aside0.mk (below_drew1 HB.out)
       have p454 : 0 ≤ (x7_1 : Int) := of_decide_eq_true zq4
       have q454 : x7_1 < (l0_7.length : Int) := of_decide_eq_true zq4
       obtain ⟨ad454, e454, hx454_0⟩ := Kd.at_bool HR0_7.out x7_1 p454 q454
       (try rw [← Nbq10.out] at hx454_0)
       have hw454_0 := hx454_0
       cases e454
       replace hx454_0 := (HB.out.cell (World.block_lt_of_cell? w _ hx454_0)).trans hx454_0
       replace p454 := eq_true p454
       replace q454 := eq_true q454
       refine start_ (n := 15) (S := fun w' => w'.cell? ⟨gb451, 0, none⟩ = some (.int .i64 a0_0) ∧ w'.cell? ⟨gb451, 1, none⟩ = some (.int .i64 a0_1) ∧ w'.cell? ⟨gb451, 2, none⟩ = some (.int .i64 a0_2) ∧ w'.cell? ⟨gb451, 3, none⟩ = some (.int .i64 a0_3) ∧ w'.cell? ⟨gb451, 4, none⟩ = some (.int .i64 a0_4) ∧ w'.cell? ⟨gb451, 5, none⟩ = some (.int .i64 a0_5) ∧ w'.cell? ⟨gb451, 6, none⟩ = some (.int .i64 a0_6) ∧ w'.cell? ⟨gb451, 7, none⟩ = some (.slice (some ad454) l0_7.length c0_7) ∧ w'.cell? ⟨gb451, 8, none⟩ = some (.slice A0_8 l0_8.length c0_8) ∧ w'.cell? (ad454.add (x7_1).toNat) = some (.bool false)) (ds := []) #[false, false, false, false, false, false, false, false, false, false, false, false, false, false, false] zq1 rfl rfl (zca9 BK451.out ((HB.out.cell (World.block_lt_of_cell? w _ hw454_0)).trans hw454_0)) (fun hHeld => ?_); refine with_tabW isobathref03_safe.tab4 isobathref03_safe.bits4 (fun HT_ HW_ => ?_)
       generalize wr.drew = w33 at BK451 BK452 BK453 HB hx454_0 hHeld ⊢
       refine zpz (i := 0) (N := some 17) (any_of HT_.out zq1) ?_
       refine zpz (i := 2) (N := some 19) (any_of HT_.out zq1) ?_
       refine ztz (i := 1) (N := some 18) (take_ofW HT_.out HW_.out zq1) hHeld ?_
       refine zpz (i := 3) (N := some 20) (any_of HT_.out zq1) ?_
       refine ztz (i := 4) (N := some 21) (take_ofW HT_.out HW_.out zq1) hHeld ?_
       refine zpz (i := 5) (N := some 22) (any_of HT_.out zq1) ?_
       refine pure_ (i := 6) (N := some 23) (v := undef) (a' := ?_) #[true, true, true, true, true, true, true, false, false, false, false, false, false, false, false] rfl rfl (any_of HT_.out zq1) (fun _ _ _ h => h) (Or.inr ⟨by rfl, rfl⟩) ?_ ?_
       rotate_left
       ·simp only [Act.put, List.setIfInBounds_toArray, List.set_cons_zero, List.set_cons_succ, i64_w, i32_w]
        rfl
       refine pure_ (i := 7) (N := some 24) (v := undef) (a' := ?_) #[true, true, true, true, true, true, true, true, false, false, false, false, false, false, false] rfl rfl (any_of HT_.out zq1) (fun _ _ _ h => h) (Or.inr ⟨by rfl, rfl⟩) ?_ ?_
       rotate_left
       ·simp only [Act.put, List.setIfInBounds_toArray, List.set_cons_zero, List.set_cons_succ, i64_w, i32_w]
        rfl
       refine pure_ (i := 8) (N := some 25) (v := undef) (a' := ?_) #[true, true, true, true, true, true, true, true, true, false, false, false, false, false, false] rfl rfl (any_of HT_.out zq1) (fun _ _ _ h => h) (Or.inr ⟨by rfl, rfl⟩) ?_ ?_
       rotate_left
       ·simp only [Act.put, List.setIfInBounds_toArray, List.set_cons_zero, List.set_cons_succ, i64_w, i32_w]
        rfl
       refine pure_ (i := 9) (N := some 26) (v := undef) (a' := ?_) #[true, true, true, true, true, true, true, true, true, true, false, false, false, false, false] rfl rfl (any_of HT_.out zq1) (fun _ _ _ h => h) (Or.inr ⟨by rfl, rfl⟩) ?_ ?_
       rotate_left
       ·simp only [Act.put, List.setIfInBounds_toArray, List.set_cons_zero, List.set_cons_succ, i64_w, i32_w]
        rfl
       refine pure_ (i := 10) (N := some 27) (v := undef) (a' := ?_) #[true, true, true, true, true, true, true, true, true, true, true, false, false, false, false] rfl rfl (any_of HT_.out zq1) (fun _ _ _ h => h) (Or.inr ⟨by rfl, rfl⟩) ?_ ?_
       rotate_left
       ·simp only [Act.put, List.setIfInBounds_toArray, List.set_cons_zero, List.set_cons_succ, i64_w, i32_w]
        rfl
       refine pure_ (i := 11) (N := some 28) (v := undef) (a' := ?_) #[true, true, true, true, true, true, true, true, true, true, true, true, false, false, false] rfl rfl (any_of HT_.out zq1) (fun _ _ _ h => h) (Or.inr ⟨by rfl, rfl⟩) ?_ ?_
       rotate_left
       ·simp only [Act.put, List.setIfInBounds_toArray, List.set_cons_zero, List.set_cons_succ, i64_w, i32_w]
        rfl
       refine pure_ (i := 12) (N := some 29) (v := undef) (a' := ?_) #[true, true, true, true, true, true, true, true, true, true, true, true, true, false, false] rfl rfl (any_of HT_.out zq1) (fun _ _ _ h => h) (Or.inr ⟨by rfl, rfl⟩) ?_ ?_
       rotate_left
       ·simp only [Act.put, List.setIfInBounds_toArray, List.set_cons_zero, List.set_cons_succ, i64_w, i32_w]
        rfl
       refine pure_ (i := 13) (N := some 30) (v := undef) (a' := ?_) #[true, true, true, true, true, true, true, true, true, true, true, true, true, true, false] rfl rfl (any_of HT_.out zq1) (fun _ _ _ h => h) (Or.inr ⟨by rfl, rfl⟩) ?_ ?_
       rotate_left
       ·simp only [Act.put, List.setIfInBounds_toArray, List.set_cons_zero, List.set_cons_succ, i64_w, i32_w]
        rfl
       refine zpz (i := 14) (N := some 31) (any_of HT_.out zq1) ?_
       refine done_ (done_of HT_.out zq1) ?_
       try go_wp2
       go_roundg k1
       case measure => have := HK1.out; omega
       case rel => exact ⟨(wrap64 (x7_1 + 1)), zq2, H', ⟨zq7⟩, ⟨by (with_reducible repeat (first | refine blk_drewN ?_ _ | refine blk_drew ?_ | refine blk_alloc ?_ _)); exact BK451.out⟩, ⟨by (with_reducible repeat (first | refine blk_drewN ?_ _ | refine blk_drew ?_ | refine blk_alloc ?_ _)); exact BK452.out⟩, ⟨by (with_reducible repeat (first | refine blk_drewN ?_ _ | refine blk_drew ?_ | refine blk_alloc ?_ _)); exact BK453.out⟩, ⟨zbz⟩⟩
     ·rw [if_neg c9] at H
      exact absurd H (by simp)
    ·rw [if_neg c8] at H
     exact absurd H (by simp)
   ·rw [if_neg c7] at H
    have c7b0 : decide (x7_1 < (wrap64 (a0_0 * a0_1))) = false := decide_eq_false c7
    clear c7
    obtain rfl := Option.some.inj H
    have hnb34 := NB451_452.out
    have hnc34 := NB452_451.out
    have hnb35 := NB451_453.out
    have hnc35 := NB453_451.out
    obtain ⟨hcz36_0, hcz36_1, hcz36_2, hcz36_3, hcz36_4, hcz36_5, hcz36_6, hcz36_7, hcz36_8, hfz36_0, hfz36_1, hfz36_2, hfz36_3, hfz36_4, hfz36_5, hfz36_6, hfz36_7, hfz36_8⟩ := zce9 BK451.out
    go_wp2
    go_ret
    exact ⟨zq6, zbz⟩

end Go.Proofs.Ytmhaiihjfgfaoaa.Pr
end
