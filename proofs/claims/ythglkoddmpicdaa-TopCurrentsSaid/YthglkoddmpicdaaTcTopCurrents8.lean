/- Part 8 of the proof of TopCurrents: what the functions compute. No condition. -/
import Derived.Test.YthglkoddmpicdaaTcTopCurrents3
import Derived.Test.YthglkoddmpicdaaTcTopCurrents7
set_option linter.unusedVariables false
set_option linter.unusedSimpArgs false
section
namespace Go.Proofs.Ythglkoddmpicdaa.Pr
open Go.RowKit Go.Proofs.YthglkoddmpicdaaW.PrintWords Go.Proofs.YthglkoddmpicdaaW.PrintLast Go.Proofs.YthglkoddmpicdaaW.PrintMore
attribute [local go_sem] max2_int min2_int max_two min_two max_four
set_option linter.unusedVariables false
set_option linter.unusedSimpArgs false

/-! ### isobathref03_at: function 58 -/
mutual
def isobathref03_at.l0 : Nat → Int → Int → Int → Bool → Int → Int → Int → Int → Int → Int → Int → Int → List Bool → List (S33) → Int → Int → Int → Int → Int → Int → Int → Int → Option (Int × Int × Int × Int)
 | 0, _, _, _, _, _, _, _, _, _, _, _, _, _, _, _, _, _, _, _, _, _, _ => none
 | k + 1, x2, x3, x4, x12, x13, x188000, x188001, x188002, x188003, x188004, x188005, x188006, x188007, x188008, x189000, x189001, x189002, x189003, x191000, x191001, x191002, x191003 => if x13 < x188004 then (if (wrap64 (x13 * x188003)) ≥ x4 then (isobathref03_at.j1 k x2 x3 x4 x12 x13 true x188000 x188001 x188002 x188003 x188004 x188005 x188006 x188007 x188008 x189000 x189001 x189002 x189003 x191000 x191001 x191002 x191003) else (isobathref03_at.j1 k x2 x3 x4 x12 x13 (decide ((wrap64 ((wrap64 (x13 + 1)) * x188003)) ≤ x3)) x188000 x188001 x188002 x188003 x188004 x188005 x188006 x188007 x188008 x189000 x189001 x189002 x189003 x191000 x191001 x191002 x191003)) else (some (x191000, x191001, x191002, x191003))
def isobathref03_at.j1 : Nat → Int → Int → Int → Bool → Int → Bool → Int → Int → Int → Int → Int → Int → Int → List Bool → List (S33) → Int → Int → Int → Int → Int → Int → Int → Int → Option (Int × Int × Int × Int)
 | 0, _, _, _, _, _, _, _, _, _, _, _, _, _, _, _, _, _, _, _, _, _, _, _ => none
 | k + 1, x2, x3, x4, x12, x13, x36, x188000, x188001, x188002, x188003, x188004, x188005, x188006, x188007, x188008, x189000, x189001, x189002, x189003, x191000, x191001, x191002, x191003 => if x36 = true then (isobathref03_at.l0 k x2 x3 x4 x12 (wrap64 (x13 + 1)) x188000 x188001 x188002 x188003 x188004 x188005 x188006 x188007 x188008 x189000 x189001 x189002 x189003 x191000 x191001 x191002 x191003) else (isobathref03_at.l1 k x2 x3 x4 x12 x13 0 x188000 x188001 x188002 x188003 x188004 x188005 x188006 x188007 x188008 x189000 x189001 x189002 x189003 x191000 x191001 x191002 x191003)
def isobathref03_at.l1 : Nat → Int → Int → Int → Bool → Int → Int → Int → Int → Int → Int → Int → Int → Int → List Bool → List (S33) → Int → Int → Int → Int → Int → Int → Int → Int → Option (Int × Int × Int × Int)
 | 0, _, _, _, _, _, _, _, _, _, _, _, _, _, _, _, _, _, _, _, _, _, _, _ => none
 | k + 1, x2, x3, x4, x12, x13, x14, x188000, x188001, x188002, x188003, x188004, x188005, x188006, x188007, x188008, x189000, x189001, x189002, x189003, x191000, x191001, x191002, x191003 => if x14 < (wrap64 (x188000 * x188001)) then ((isobathref03_Cell.f x188000 x188001 x188002 x188003 x188004 x188005 x188006 x188007 x188008 x14).bind fun bt191 => ((isobathref03_touches.f x189000 x189001 x189002 x189003 bt191.1 bt191.2.1 bt191.2.2.1 bt191.2.2.2).bind fun t195 => (if t195 = true then (if 0 ≤ (wrap64 ((wrap64 ((wrap64 ((wrap64 ((wrap64 (x13 * x188005)) + x2)) * x188000)) * x188001)) + x14)) then (if (wrap64 ((wrap64 ((wrap64 ((wrap64 ((wrap64 (x13 * x188005)) + x2)) * x188000)) * x188001)) + x14)) < (x188008.length : Int) then (if x12 = true then ((isobathref03_hull.f x191000 x191001 ((rd_T33 x188008 (wrap64 ((wrap64 ((wrap64 ((wrap64 ((wrap64 (x13 * x188005)) + x2)) * x188000)) * x188001)) + x14))).f0.f0) ((rd_T33 x188008 (wrap64 ((wrap64 ((wrap64 ((wrap64 ((wrap64 (x13 * x188005)) + x2)) * x188000)) * x188001)) + x14))).f0.f1)).bind fun bt198 => ((isobathref03_hull.f x191002 x191003 ((rd_T33 x188008 (wrap64 ((wrap64 ((wrap64 ((wrap64 ((wrap64 (x13 * x188005)) + x2)) * x188000)) * x188001)) + x14))).f1.f0) ((rd_T33 x188008 (wrap64 ((wrap64 ((wrap64 ((wrap64 ((wrap64 (x13 * x188005)) + x2)) * x188000)) * x188001)) + x14))).f1.f1)).bind fun bt200 => (isobathref03_at.l1 k x2 x3 x4 true x13 (wrap64 (x14 + 1)) x188000 x188001 x188002 x188003 x188004 x188005 x188006 x188007 x188008 x189000 x189001 x189002 x189003 bt198.1 bt198.2 bt200.1 bt200.2))) else (isobathref03_at.l1 k x2 x3 x4 true x13 (wrap64 (x14 + 1)) x188000 x188001 x188002 x188003 x188004 x188005 x188006 x188007 x188008 x189000 x189001 x189002 x189003 ((rd_T33 x188008 (wrap64 ((wrap64 ((wrap64 ((wrap64 ((wrap64 (x13 * x188005)) + x2)) * x188000)) * x188001)) + x14))).f0.f0) ((rd_T33 x188008 (wrap64 ((wrap64 ((wrap64 ((wrap64 ((wrap64 (x13 * x188005)) + x2)) * x188000)) * x188001)) + x14))).f0.f1) ((rd_T33 x188008 (wrap64 ((wrap64 ((wrap64 ((wrap64 ((wrap64 (x13 * x188005)) + x2)) * x188000)) * x188001)) + x14))).f1.f0) ((rd_T33 x188008 (wrap64 ((wrap64 ((wrap64 ((wrap64 ((wrap64 (x13 * x188005)) + x2)) * x188000)) * x188001)) + x14))).f1.f1))) else (none)) else (none)) else (isobathref03_at.l1 k x2 x3 x4 x12 x13 (wrap64 (x14 + 1)) x188000 x188001 x188002 x188003 x188004 x188005 x188006 x188007 x188008 x189000 x189001 x189002 x189003 x191000 x191001 x191002 x191003)))) else (isobathref03_at.l0 k x2 x3 x4 x12 (wrap64 (x13 + 1)) x188000 x188001 x188002 x188003 x188004 x188005 x188006 x188007 x188008 x189000 x189001 x189002 x189003 x191000 x191001 x191002 x191003)
end
def isobathref03_at.f (k : Nat) (a0_0 : Int) (a0_1 : Int) (a0_2 : Int) (a0_3 : Int) (a0_4 : Int) (a0_5 : Int) (a0_6 : Int) (l0_7 : List Bool) (l0_8 : List (S33)) (a1_0 : Int) (a1_1 : Int) (a1_2 : Int) (a1_3 : Int) (a2 : Int) (a3 : Int) (a4 : Int) : Option (Int × Int × Int × Int) := isobathref03_at.l0 k a2 a3 a4 false 0 a0_0 a0_1 a0_2 a0_3 a0_4 a0_5 a0_6 l0_7 l0_8 a1_0 a1_1 a1_2 a1_3 0 0 0 0
def isobathref03_at.T13 : Bool × List (List Nat × List Nat) := (true, [([], []), ([0], [0]), ([], []), ([2], [2]), ([1, 3], [1, 3]), ([], []), ([5], [5]), ([], []), ([7], [7]), ([6, 8, 4], [6, 8]), ([4, 9], [4, 9]), ([10, 9, 0, 1, 2, 3, 4, 5, 6, 7, 8, 9, 10], [10])])
def isobathref03_at.B13 : List Nat := [0, 1, 0, 4, 15, 0, 32, 0, 128, 511, 1023, 2047]
theorem isobathref03_at.tab13 : rtab .any (opsOf Try.f58 13) = isobathref03_at.T13 := by kernel_rfl
theorem isobathref03_at.bits13 : waitsOk isobathref03_at.T13.2 isobathref03_at.B13 = true := by kernel_rfl
set_option maxHeartbeats 8000000 in
set_option maxRecDepth 100000 in
theorem isobathref03_at.calls (k : Nat) (a0_0 : Int) (a0_1 : Int) (a0_2 : Int) (a0_3 : Int) (a0_4 : Int) (a0_5 : Int) (a0_6 : Int) (A0_7 : Option Addr) (c0_7 : Nat) (l0_7 : List Bool) (A0_8 : Option Addr) (c0_8 : Nat) (l0_8 : List (S33)) (a1_0 : Int) (a1_1 : Int) (a1_2 : Int) (a1_3 : Int) (a2 : Int) (a3 : Int) (a4 : Int) (r1 : Int) (r2 : Int) (r3 : Int) (r4 : Int) (w : World) (hr0_7 : Kd.C Kd.bool w A0_7 l0_7.length l0_7) (hc0_7 : l0_7.length ≤ c0_7) (hr0_8 : Kd.C k33 w A0_8 l0_8.length l0_8) (hc0_8 : l0_8.length ≤ c0_8) (h : isobathref03_at.f k a0_0 a0_1 a0_2 a0_3 a0_4 a0_5 a0_6 l0_7 l0_8 a1_0 a1_1 a1_2 a1_3 a2 a3 a4 = some (r1, r2, r3, r4)) :
  Calls Try.prog 58 #[.agg #[.int .i64 a0_0, .int .i64 a0_1, .int .i64 a0_2, .int .i64 a0_3, .int .i64 a0_4, .int .i64 a0_5, .int .i64 a0_6, .slice A0_7 l0_7.length c0_7, .slice A0_8 l0_8.length c0_8], .agg #[.int .i64 a1_0, .int .i64 a1_1, .int .i64 a1_2, .int .i64 a1_3], .int .i64 a2, .int .i64 a3, .int .i64 a4] w fun e w' => e = .returned (.agg #[.int .i64 r1, .int .i64 r2, .int .i64 r3, .int .i64 r4]) ∧ Below w.heap.size w w' := by
 have hu25 := Try.underlying25
 have hu29 := Try.underlying29
 have hu33 := Try.underlying33
 have hu27 := Try.underlying27
 have HR0_7 := Aside0.mk hr0_7
 have HC0_7 := Aside0.mk hc0_7
 clear hr0_7 hc0_7
 have HR0_8 := Aside0.mk hr0_8
 have HC0_8 := Aside0.mk hc0_8
 clear hr0_8 hc0_8
 have HB := Aside0.mk (Below.refl w.heap.size w)
 have H : (isobathref03_at.l0 k a2 a3 a4 false 0 a0_0 a0_1 a0_2 a0_3 a0_4 a0_5 a0_6 l0_7 l0_8 a1_0 a1_1 a1_2 a1_3 0 0 0 0) = some (r1, r2, r3, r4) := h
 clear h
 have H' := Aside0.mk H
 clear H
 go_enter Try.func58, Try.ntmps58
 go_wp2_with (first | ((with_reducible refine gate_dst (N := 5) rfl ?_); refine box_event (by rfl) (N := 5) (by rfl) (cs := #[.int .i64 a0_0, .int .i64 a0_1, .int .i64 a0_2, .int .i64 a0_3, .int .i64 a0_4, .int .i64 a0_5, .int .i64 a0_6, .slice A0_7 l0_7.length c0_7, .slice A0_8 l0_8.length c0_8]) (t := 25) zq1 ?_; intro gb187 hg w6 hbox hb; have BK187 := Aside0.mk (hbox); have GW187 := zgs HB hg; have GE187 := zgs HB hg; replace HB := zbs HB hb; clear hb hbox hg) | ((with_reducible refine gate_dst (N := 6) rfl ?_); refine box_event (by rfl) (N := 6) (by rfl) (cs := #[.int .i64 a1_0, .int .i64 a1_1, .int .i64 a1_2, .int .i64 a1_3]) (t := 29) zq1 ?_; intro gb188 hg w7 hbox hb; have BK188 := Aside0.mk (hbox); have GW188 := zgs HB hg; have GE188 := zgs HB hg; have NB187_188 := znp BK187 hg; have NB188_187 := znq BK187 hg; replace BK187 := zbb BK187 hb; replace HB := zbs HB hb; clear hb hbox hg) | ((with_reducible refine gate_dst (N := 10) rfl ?_); refine box_event (by rfl) (N := 10) (by rfl) (cs := #[.int .i64 0, .int .i64 0, .int .i64 0, .int .i64 0]) (t := 33) zq1 ?_; intro gb189 hg w8 hbox hb; have BK189 := Aside0.mk (hbox); have GW189 := zgs HB hg; have GE189 := zgs HB hg; have NB187_189 := znp BK187 hg; have NB189_187 := znq BK187 hg; have NB188_189 := znp BK188 hg; have NB189_188 := znq BK188 hg; replace BK187 := zbb BK187 hb; replace BK188 := zbb BK188 hb; replace HB := zbs HB hb; clear hb hbox hg) | ((with_reducible refine gate_dst (N := 11) rfl ?_); refine box_event (by rfl) (N := 11) (by rfl) (cs := #[.int .i64 0, .int .i64 0, .int .i64 0, .int .i64 0]) (t := 33) zq1 ?_; intro gb190 hg w9 hbox hb; have BK190 := Aside0.mk (hbox); have GW190 := zgs HB hg; have GE190 := zgs HB hg; have NB187_190 := znp BK187 hg; have NB190_187 := znq BK187 hg; have NB188_190 := znp BK188 hg; have NB190_188 := znq BK188 hg; have NB189_190 := znp BK189 hg; have NB190_189 := znq BK189 hg; replace BK187 := zbb BK187 hb; replace BK188 := zbb BK188 hb; replace BK189 := zbb BK189 hb; replace HB := zbs HB hb; clear hb hbox hg))
 go_loopg [12, 13] k (fun kq v12 v13 w' => ∃ (x12_1 : Bool) (x13_1 : Int) (x191000_1 : Int) (x191001_1 : Int) (x191002_1 : Int) (x191003_1 : Int), v12 = .bool x12_1 ∧ v13 = .int .i64 x13_1 ∧ Aside0 (isobathref03_at.l0 kq a2 a3 a4 x12_1 x13_1 a0_0 a0_1 a0_2 a0_3 a0_4 a0_5 a0_6 l0_7 l0_8 a1_0 a1_1 a1_2 a1_3 x191000_1 x191001_1 x191002_1 x191003_1 = some (r1, r2, r3, r4)) ∧ Aside0 (kq ≤ k) ∧ Aside0 (w'.heap[gb187]? = some (.cells #[.int .i64 a0_0, .int .i64 a0_1, .int .i64 a0_2, .int .i64 a0_3, .int .i64 a0_4, .int .i64 a0_5, .int .i64 a0_6, (.slice A0_7 l0_7.length c0_7), (.slice A0_8 l0_8.length c0_8)] 25 (0, 0))) ∧ Aside0 (w'.heap[gb188]? = some (.cells #[.int .i64 a1_0, .int .i64 a1_1, .int .i64 a1_2, .int .i64 a1_3] 29 (0, 0))) ∧ Aside0 (w'.heap[gb189]? = some (.cells #[.int .i64 0, .int .i64 0, .int .i64 0, .int .i64 0] 33 (0, 0))) ∧ Aside0 (w'.heap[gb190]? = some (.cells #[.int .i64 x191000_1, .int .i64 x191001_1, .int .i64 x191002_1, .int .i64 x191003_1] 33 (0, 0))) ∧ Aside0 (Below w.heap.size w w'))
 case atStart => exact ⟨(false), (0), (0), (0), (0), (0), zq3, zq3, H', ⟨Nat.le_refl _⟩, ⟨zbf⟩, ⟨zbf⟩, ⟨zbf⟩, ⟨zbf⟩, ⟨zbz⟩⟩
 case round =>
  clear H'
  try clear p2
  try clear c5
  obtain ⟨x12_1, x13_1, x191000_1, x191001_1, x191002_1, x191003_1, rfl, rfl, HA, HK1, BK187, BK188, BK189, BK190, HB⟩ := hrel
  cases gk with
  | zero => exact absurd HA.out (by simp [isobathref03_at.l0])
  | succ k1 =>
   have H := HA.out
   clear HA
   simp only [isobathref03_at.l0] at H
   by_cases c10 : x13_1 < a0_4
   ·rw [if_pos c10] at H
    have c10b0 : decide (x13_1 < a0_4) = true := decide_eq_true c10
    clear c10
    have HC11 := Aside0.mk H
    clear H
    have hnb12 := NB187_188.out
    have hnc12 := NB188_187.out
    have hnb13 := NB187_189.out
    have hnc13 := NB189_187.out
    have hnb14 := NB187_190.out
    have hnc14 := NB190_187.out
    obtain ⟨hcz15_0, hcz15_1, hcz15_2, hcz15_3, hcz15_4, hcz15_5, hcz15_6, hcz15_7, hcz15_8, hfz15_0, hfz15_1, hfz15_2, hfz15_3, hfz15_4, hfz15_5, hfz15_6, hfz15_7, hfz15_8⟩ := zce9 BK187.out
    go_upto_region 6 with (fail)
    go_cut [36] (fun v36 wc => ∃ (kq : Nat) (x36_10 : Bool), v36 = .bool x36_10 ∧ Aside0 (isobathref03_at.j1 kq a2 a3 a4 x12_1 x13_1 x36_10 a0_0 a0_1 a0_2 a0_3 a0_4 a0_5 a0_6 l0_7 l0_8 a1_0 a1_1 a1_2 a1_3 x191000_1 x191001_1 x191002_1 x191003_1 = some (r1, r2, r3, r4)) ∧ Aside0 (kq ≤ k1) ∧ Aside0 (wc.heap[gb187]? = some (.cells #[.int .i64 a0_0, .int .i64 a0_1, .int .i64 a0_2, .int .i64 a0_3, .int .i64 a0_4, .int .i64 a0_5, .int .i64 a0_6, (.slice A0_7 l0_7.length c0_7), (.slice A0_8 l0_8.length c0_8)] 25 (0, 0))) ∧ Aside0 (wc.heap[gb188]? = some (.cells #[.int .i64 a1_0, .int .i64 a1_1, .int .i64 a1_2, .int .i64 a1_3] 29 (0, 0))) ∧ Aside0 (wc.heap[gb189]? = some (.cells #[.int .i64 0, .int .i64 0, .int .i64 0, .int .i64 0] 33 (0, 0))) ∧ Aside0 (wc.heap[gb190]? = some (.cells #[.int .i64 x191000_1, .int .i64 x191001_1, .int .i64 x191002_1, .int .i64 x191003_1] 33 (0, 0))) ∧ Aside0 (Below w.heap.size w wc))
    case first =>
     have H := HC11.out
     clear HC11
     by_cases c16 : (wrap64 (x13_1 * a0_3)) ≥ a4
     ·rw [if_pos c16] at H
      have c16b0 : decide (a4 ≤ (wrap64 (x13_1 * a0_3))) = true := decide_eq_true c16
      clear c16
      (first | rw [c16b0] | (simp only [i64_w, i32_w]; rw [c16b0]) | skip)
      have H' := Aside0.mk H
      clear H
      have hnb17 := NB187_188.out
      have hnc17 := NB188_187.out
      have hnb18 := NB187_189.out
      have hnc18 := NB189_187.out
      have hnb19 := NB187_190.out
      have hnc19 := NB190_187.out
      obtain ⟨hcz20_0, hcz20_1, hcz20_2, hcz20_3, hcz20_4, hcz20_5, hcz20_6, hcz20_7, hcz20_8, hfz20_0, hfz20_1, hfz20_2, hfz20_3, hfz20_4, hfz20_5, hfz20_6, hfz20_7, hfz20_8⟩ := zce9 BK187.out
      go_wp2
      go_meet
      case rel => exact ⟨_, (true), zq3, H', ⟨zq14⟩, ⟨zbf⟩, ⟨zbf⟩, ⟨zbf⟩, ⟨zbf⟩, ⟨zbz⟩⟩
     ·rw [if_neg c16] at H
      have c16b0 : decide (a4 ≤ (wrap64 (x13_1 * a0_3))) = false := decide_eq_false c16
      clear c16
      (first | rw [c16b0] | (simp only [i64_w, i32_w]; rw [c16b0]) | skip)
      have H' := Aside0.mk H
      clear H
      have hnb21 := NB187_188.out
      have hnc21 := NB188_187.out
      have hnb22 := NB187_189.out
      have hnc22 := NB189_187.out
      have hnb23 := NB187_190.out
      have hnc23 := NB190_187.out
      obtain ⟨hcz24_0, hcz24_1, hcz24_2, hcz24_3, hcz24_4, hcz24_5, hcz24_6, hcz24_7, hcz24_8, hfz24_0, hfz24_1, hfz24_2, hfz24_3, hfz24_4, hfz24_5, hfz24_6, hfz24_7, hfz24_8⟩ := zce9 BK187.out
      go_wp2
      go_meet
      case rel => exact ⟨_, (decide ((wrap64 ((wrap64 (x13_1 + 1)) * a0_3)) ≤ a3)), zq3, H', ⟨zq14⟩, ⟨zbf⟩, ⟨zbf⟩, ⟨zbf⟩, ⟨zbf⟩, ⟨zbz⟩⟩
    case rest =>
     clear HC11
     try clear c1
     try clear c2
     try clear p2
     try clear c5
     try clear p6
     try clear c10
     try clear c10b0
     try clear c12
     try clear c13
     try clear c14
     try clear c16
     try clear c16b0
     try clear c17
     try clear c18
     try clear c19
     try clear c21
     try clear c22
     try clear c23
     try clear hcz15_0 hcz15_1 hcz15_2 hcz15_3 hcz15_4 hcz15_5 hcz15_6 hcz15_7 hcz15_8
     try clear hcz20_0 hcz20_1 hcz20_2 hcz20_3 hcz20_4 hcz20_5 hcz20_6 hcz20_7 hcz20_8
     try clear hcz24_0 hcz24_1 hcz24_2 hcz24_3 hcz24_4 hcz24_5 hcz24_6 hcz24_7 hcz24_8
     try clear hfz15_0 hfz15_1 hfz15_2 hfz15_3 hfz15_4 hfz15_5 hfz15_6 hfz15_7 hfz15_8
     try clear hfz20_0 hfz20_1 hfz20_2 hfz20_3 hfz20_4 hfz20_5 hfz20_6 hfz20_7 hfz20_8
     try clear hfz24_0 hfz24_1 hfz24_2 hfz24_3 hfz24_4 hfz24_5 hfz24_6 hfz24_7 hfz24_8
     try clear p2
     obtain ⟨kq, x36_10, rfl, HA, HJ10, BK187, BK188, BK189, BK190, HB⟩ := hcut
     cases kq with
     | zero => exact absurd HA.out (by simp [isobathref03_at.j1])
     | succ kj10 =>
      have H := HA.out
      clear HA
      simp only [isobathref03_at.j1] at H
      by_cases c25 : x36_10 = true
      ·subst c25
       have H1 : (isobathref03_at.l0 kj10 a2 a3 a4 x12_1 (wrap64 (x13_1 + 1)) a0_0 a0_1 a0_2 a0_3 a0_4 a0_5 a0_6 l0_7 l0_8 a1_0 a1_1 a1_2 a1_3 x191000_1 x191001_1 x191002_1 x191003_1) = some (r1, r2, r3, r4) := by rw [if_pos rfl] at H; exact H
       clear H
       have H := H1
       clear H1
       have H' := Aside0.mk H
       clear H
       go_wp2
       go_roundg kj10
       case measure => have := HK1.out; have := HJ10.out; omega
       case rel => exact ⟨(x12_1), (wrap64 (x13_1 + 1)), (x191000_1), (x191001_1), (x191002_1), (x191003_1), zq3, zq3, H', ⟨by have := HK1.out; have := HJ10.out; omega⟩, ⟨zbf⟩, ⟨zbf⟩, ⟨zbf⟩, ⟨zbf⟩, ⟨zbz⟩⟩
      ·replace c25 := Bool.eq_false_iff.mpr c25
       subst c25
       have H1 : (isobathref03_at.l1 kj10 a2 a3 a4 x12_1 x13_1 0 a0_0 a0_1 a0_2 a0_3 a0_4 a0_5 a0_6 l0_7 l0_8 a1_0 a1_1 a1_2 a1_3 x191000_1 x191001_1 x191002_1 x191003_1) = some (r1, r2, r3, r4) := by rw [if_neg (show ¬ (false = true) by decide)] at H; exact H
       clear H
       have H := H1
       clear H1
       have H' := Aside0.mk H
       clear H
       go_wp2
       go_loopg [12, 14] kj10 (fun kq v12 v14 w' => ∃ (x12_3 : Bool) (x14_3 : Int) (x191000_3 : Int) (x191001_3 : Int) (x191002_3 : Int) (x191003_3 : Int), v12 = .bool x12_3 ∧ v14 = .int .i64 x14_3 ∧ Aside0 (isobathref03_at.l1 kq a2 a3 a4 x12_3 x13_1 x14_3 a0_0 a0_1 a0_2 a0_3 a0_4 a0_5 a0_6 l0_7 l0_8 a1_0 a1_1 a1_2 a1_3 x191000_3 x191001_3 x191002_3 x191003_3 = some (r1, r2, r3, r4)) ∧ Aside0 (kq ≤ kj10) ∧ Aside0 (w'.heap[gb187]? = some (.cells #[.int .i64 a0_0, .int .i64 a0_1, .int .i64 a0_2, .int .i64 a0_3, .int .i64 a0_4, .int .i64 a0_5, .int .i64 a0_6, (.slice A0_7 l0_7.length c0_7), (.slice A0_8 l0_8.length c0_8)] 25 (0, 0))) ∧ Aside0 (w'.heap[gb188]? = some (.cells #[.int .i64 a1_0, .int .i64 a1_1, .int .i64 a1_2, .int .i64 a1_3] 29 (0, 0))) ∧ Aside0 (w'.heap[gb189]? = some (.cells #[.int .i64 0, .int .i64 0, .int .i64 0, .int .i64 0] 33 (0, 0))) ∧ Aside0 (w'.heap[gb190]? = some (.cells #[.int .i64 x191000_3, .int .i64 x191001_3, .int .i64 x191002_3, .int .i64 x191003_3] 33 (0, 0))) ∧ Aside0 (Below w.heap.size w w'))
       case atStart => exact ⟨(x12_1), (0), (x191000_1), (x191001_1), (x191002_1), (x191003_1), zq3, zq3, H', ⟨Nat.le_refl _⟩, ⟨zbf⟩, ⟨zbf⟩, ⟨zbf⟩, ⟨zbf⟩, ⟨zbz⟩⟩
       case round =>
        clear H'
        try clear c1
        try clear c2
        try clear p2
        try clear c5
        try clear p6
        try clear c10
        try clear c10b0
        try clear c12
        try clear c13
        try clear c14
        try clear c16
        try clear c16b0
        try clear c17
        try clear c18
        try clear c19
        try clear c21
        try clear c22
        try clear c23
        try clear c25
        try clear hcz15_0 hcz15_1 hcz15_2 hcz15_3 hcz15_4 hcz15_5 hcz15_6 hcz15_7 hcz15_8
        try clear hcz20_0 hcz20_1 hcz20_2 hcz20_3 hcz20_4 hcz20_5 hcz20_6 hcz20_7 hcz20_8
        try clear hcz24_0 hcz24_1 hcz24_2 hcz24_3 hcz24_4 hcz24_5 hcz24_6 hcz24_7 hcz24_8
        try clear hfz15_0 hfz15_1 hfz15_2 hfz15_3 hfz15_4 hfz15_5 hfz15_6 hfz15_7 hfz15_8
        try clear hfz20_0 hfz20_1 hfz20_2 hfz20_3 hfz20_4 hfz20_5 hfz20_6 hfz20_7 hfz20_8
        try clear hfz24_0 hfz24_1 hfz24_2 hfz24_3 hfz24_4 hfz24_5 hfz24_6 hfz24_7 hfz24_8
        try clear p2
        try clear p6
        obtain ⟨x12_3, x14_3, x191000_3, x191001_3, x191002_3, x191003_3, rfl, rfl, HA, HK3, BK187, BK188, BK189, BK190, HB⟩ := hrel
        cases gk with
        | zero => exact absurd HA.out (by simp [isobathref03_at.l1])
        | succ k3 =>
         have H := HA.out
         clear HA
         simp only [isobathref03_at.l1] at H
         by_cases c26 : x14_3 < (wrap64 (a0_0 * a0_1))
         ·rw [if_pos c26] at H
          have c26b0 : decide (x14_3 < (wrap64 (a0_0 * a0_1))) = true := decide_eq_true c26
          clear c26
          replace H := Option.bind_eq_some_iff.mp H
          obtain ⟨⟨t191, t192, t193, t194⟩, A270, H⟩ := H
          replace H : ((isobathref03_touches.f a1_0 a1_1 a1_2 a1_3 t191 t192 t193 t194).bind fun t195 => (if t195 = true then (if 0 ≤ (wrap64 ((wrap64 ((wrap64 ((wrap64 ((wrap64 (x13_1 * a0_5)) + a2)) * a0_0)) * a0_1)) + x14_3)) then (if (wrap64 ((wrap64 ((wrap64 ((wrap64 ((wrap64 (x13_1 * a0_5)) + a2)) * a0_0)) * a0_1)) + x14_3)) < (l0_8.length : Int) then (if x12_3 = true then ((isobathref03_hull.f x191000_3 x191001_3 ((rd_T33 l0_8 (wrap64 ((wrap64 ((wrap64 ((wrap64 ((wrap64 (x13_1 * a0_5)) + a2)) * a0_0)) * a0_1)) + x14_3))).f0.f0) ((rd_T33 l0_8 (wrap64 ((wrap64 ((wrap64 ((wrap64 ((wrap64 (x13_1 * a0_5)) + a2)) * a0_0)) * a0_1)) + x14_3))).f0.f1)).bind fun bt198 => ((isobathref03_hull.f x191002_3 x191003_3 ((rd_T33 l0_8 (wrap64 ((wrap64 ((wrap64 ((wrap64 ((wrap64 (x13_1 * a0_5)) + a2)) * a0_0)) * a0_1)) + x14_3))).f1.f0) ((rd_T33 l0_8 (wrap64 ((wrap64 ((wrap64 ((wrap64 ((wrap64 (x13_1 * a0_5)) + a2)) * a0_0)) * a0_1)) + x14_3))).f1.f1)).bind fun bt200 => (isobathref03_at.l1 k3 a2 a3 a4 true x13_1 (wrap64 (x14_3 + 1)) a0_0 a0_1 a0_2 a0_3 a0_4 a0_5 a0_6 l0_7 l0_8 a1_0 a1_1 a1_2 a1_3 bt198.1 bt198.2 bt200.1 bt200.2))) else (isobathref03_at.l1 k3 a2 a3 a4 true x13_1 (wrap64 (x14_3 + 1)) a0_0 a0_1 a0_2 a0_3 a0_4 a0_5 a0_6 l0_7 l0_8 a1_0 a1_1 a1_2 a1_3 ((rd_T33 l0_8 (wrap64 ((wrap64 ((wrap64 ((wrap64 ((wrap64 (x13_1 * a0_5)) + a2)) * a0_0)) * a0_1)) + x14_3))).f0.f0) ((rd_T33 l0_8 (wrap64 ((wrap64 ((wrap64 ((wrap64 ((wrap64 (x13_1 * a0_5)) + a2)) * a0_0)) * a0_1)) + x14_3))).f0.f1) ((rd_T33 l0_8 (wrap64 ((wrap64 ((wrap64 ((wrap64 ((wrap64 (x13_1 * a0_5)) + a2)) * a0_0)) * a0_1)) + x14_3))).f1.f0) ((rd_T33 l0_8 (wrap64 ((wrap64 ((wrap64 ((wrap64 ((wrap64 (x13_1 * a0_5)) + a2)) * a0_0)) * a0_1)) + x14_3))).f1.f1))) else (none)) else (none)) else (isobathref03_at.l1 k3 a2 a3 a4 x12_3 x13_1 (wrap64 (x14_3 + 1)) a0_0 a0_1 a0_2 a0_3 a0_4 a0_5 a0_6 l0_7 l0_8 a1_0 a1_1 a1_2 a1_3 x191000_3 x191001_3 x191002_3 x191003_3))) = some (r1, r2, r3, r4) := H
          have A27 := Aside0.mk A270
          clear A270
          replace H := Option.bind_eq_some_iff.mp H
          obtain ⟨t195, A280, H⟩ := H
          replace H : (if t195 = true then (if 0 ≤ (wrap64 ((wrap64 ((wrap64 ((wrap64 ((wrap64 (x13_1 * a0_5)) + a2)) * a0_0)) * a0_1)) + x14_3)) then (if (wrap64 ((wrap64 ((wrap64 ((wrap64 ((wrap64 (x13_1 * a0_5)) + a2)) * a0_0)) * a0_1)) + x14_3)) < (l0_8.length : Int) then (if x12_3 = true then ((isobathref03_hull.f x191000_3 x191001_3 ((rd_T33 l0_8 (wrap64 ((wrap64 ((wrap64 ((wrap64 ((wrap64 (x13_1 * a0_5)) + a2)) * a0_0)) * a0_1)) + x14_3))).f0.f0) ((rd_T33 l0_8 (wrap64 ((wrap64 ((wrap64 ((wrap64 ((wrap64 (x13_1 * a0_5)) + a2)) * a0_0)) * a0_1)) + x14_3))).f0.f1)).bind fun bt198 => ((isobathref03_hull.f x191002_3 x191003_3 ((rd_T33 l0_8 (wrap64 ((wrap64 ((wrap64 ((wrap64 ((wrap64 (x13_1 * a0_5)) + a2)) * a0_0)) * a0_1)) + x14_3))).f1.f0) ((rd_T33 l0_8 (wrap64 ((wrap64 ((wrap64 ((wrap64 ((wrap64 (x13_1 * a0_5)) + a2)) * a0_0)) * a0_1)) + x14_3))).f1.f1)).bind fun bt200 => (isobathref03_at.l1 k3 a2 a3 a4 true x13_1 (wrap64 (x14_3 + 1)) a0_0 a0_1 a0_2 a0_3 a0_4 a0_5 a0_6 l0_7 l0_8 a1_0 a1_1 a1_2 a1_3 bt198.1 bt198.2 bt200.1 bt200.2))) else (isobathref03_at.l1 k3 a2 a3 a4 true x13_1 (wrap64 (x14_3 + 1)) a0_0 a0_1 a0_2 a0_3 a0_4 a0_5 a0_6 l0_7 l0_8 a1_0 a1_1 a1_2 a1_3 ((rd_T33 l0_8 (wrap64 ((wrap64 ((wrap64 ((wrap64 ((wrap64 (x13_1 * a0_5)) + a2)) * a0_0)) * a0_1)) + x14_3))).f0.f0) ((rd_T33 l0_8 (wrap64 ((wrap64 ((wrap64 ((wrap64 ((wrap64 (x13_1 * a0_5)) + a2)) * a0_0)) * a0_1)) + x14_3))).f0.f1) ((rd_T33 l0_8 (wrap64 ((wrap64 ((wrap64 ((wrap64 ((wrap64 (x13_1 * a0_5)) + a2)) * a0_0)) * a0_1)) + x14_3))).f1.f0) ((rd_T33 l0_8 (wrap64 ((wrap64 ((wrap64 ((wrap64 ((wrap64 (x13_1 * a0_5)) + a2)) * a0_0)) * a0_1)) + x14_3))).f1.f1))) else (none)) else (none)) else (isobathref03_at.l1 k3 a2 a3 a4 x12_3 x13_1 (wrap64 (x14_3 + 1)) a0_0 a0_1 a0_2 a0_3 a0_4 a0_5 a0_6 l0_7 l0_8 a1_0 a1_1 a1_2 a1_3 x191000_3 x191001_3 x191002_3 x191003_3)) = some (r1, r2, r3, r4) := H
          have A28 := Aside0.mk A280
          clear A280
          by_cases c29 : t195 = true
          ·subst c29
           have H1 : (if 0 ≤ (wrap64 ((wrap64 ((wrap64 ((wrap64 ((wrap64 (x13_1 * a0_5)) + a2)) * a0_0)) * a0_1)) + x14_3)) then (if (wrap64 ((wrap64 ((wrap64 ((wrap64 ((wrap64 (x13_1 * a0_5)) + a2)) * a0_0)) * a0_1)) + x14_3)) < (l0_8.length : Int) then (if x12_3 = true then ((isobathref03_hull.f x191000_3 x191001_3 ((rd_T33 l0_8 (wrap64 ((wrap64 ((wrap64 ((wrap64 ((wrap64 (x13_1 * a0_5)) + a2)) * a0_0)) * a0_1)) + x14_3))).f0.f0) ((rd_T33 l0_8 (wrap64 ((wrap64 ((wrap64 ((wrap64 ((wrap64 (x13_1 * a0_5)) + a2)) * a0_0)) * a0_1)) + x14_3))).f0.f1)).bind fun bt198 => ((isobathref03_hull.f x191002_3 x191003_3 ((rd_T33 l0_8 (wrap64 ((wrap64 ((wrap64 ((wrap64 ((wrap64 (x13_1 * a0_5)) + a2)) * a0_0)) * a0_1)) + x14_3))).f1.f0) ((rd_T33 l0_8 (wrap64 ((wrap64 ((wrap64 ((wrap64 ((wrap64 (x13_1 * a0_5)) + a2)) * a0_0)) * a0_1)) + x14_3))).f1.f1)).bind fun bt200 => (isobathref03_at.l1 k3 a2 a3 a4 true x13_1 (wrap64 (x14_3 + 1)) a0_0 a0_1 a0_2 a0_3 a0_4 a0_5 a0_6 l0_7 l0_8 a1_0 a1_1 a1_2 a1_3 bt198.1 bt198.2 bt200.1 bt200.2))) else (isobathref03_at.l1 k3 a2 a3 a4 true x13_1 (wrap64 (x14_3 + 1)) a0_0 a0_1 a0_2 a0_3 a0_4 a0_5 a0_6 l0_7 l0_8 a1_0 a1_1 a1_2 a1_3 ((rd_T33 l0_8 (wrap64 ((wrap64 ((wrap64 ((wrap64 ((wrap64 (x13_1 * a0_5)) + a2)) * a0_0)) * a0_1)) + x14_3))).f0.f0) ((rd_T33 l0_8 (wrap64 ((wrap64 ((wrap64 ((wrap64 ((wrap64 (x13_1 * a0_5)) + a2)) * a0_0)) * a0_1)) + x14_3))).f0.f1) ((rd_T33 l0_8 (wrap64 ((wrap64 ((wrap64 ((wrap64 ((wrap64 (x13_1 * a0_5)) + a2)) * a0_0)) * a0_1)) + x14_3))).f1.f0) ((rd_T33 l0_8 (wrap64 ((wrap64 ((wrap64 ((wrap64 ((wrap64 (x13_1 * a0_5)) + a2)) * a0_0)) * a0_1)) + x14_3))).f1.f1))) else (none)) else (none)) = some (r1, r2, r3, r4) := by rw [if_pos rfl] at H; exact H
           clear H
           have H := H1
           clear H1
           obtain ⟨ji30, hji30⟩ : ∃ j_ : Int, (wrap64 ((wrap64 ((wrap64 ((wrap64 ((wrap64 (x13_1 * a0_5)) + a2)) * a0_0)) * a0_1)) + x14_3)) = j_ := ⟨_, rfl⟩
           replace H : (if 0 ≤ (ji30) then (if (ji30) < (l0_8.length : Int) then (if x12_3 = true then ((isobathref03_hull.f x191000_3 x191001_3 ((rd_T33 l0_8 (ji30)).f0.f0) ((rd_T33 l0_8 (ji30)).f0.f1)).bind fun bt198 => ((isobathref03_hull.f x191002_3 x191003_3 ((rd_T33 l0_8 (ji30)).f1.f0) ((rd_T33 l0_8 (ji30)).f1.f1)).bind fun bt200 => (isobathref03_at.l1 k3 a2 a3 a4 true x13_1 (wrap64 (x14_3 + 1)) a0_0 a0_1 a0_2 a0_3 a0_4 a0_5 a0_6 l0_7 l0_8 a1_0 a1_1 a1_2 a1_3 bt198.1 bt198.2 bt200.1 bt200.2))) else (isobathref03_at.l1 k3 a2 a3 a4 true x13_1 (wrap64 (x14_3 + 1)) a0_0 a0_1 a0_2 a0_3 a0_4 a0_5 a0_6 l0_7 l0_8 a1_0 a1_1 a1_2 a1_3 ((rd_T33 l0_8 (ji30)).f0.f0) ((rd_T33 l0_8 (ji30)).f0.f1) ((rd_T33 l0_8 (ji30)).f1.f0) ((rd_T33 l0_8 (ji30)).f1.f1))) else (none)) else (none)) = some (r1, r2, r3, r4) := by first | (rw [hji30] at H; exact H) | (simp only [hji30] at H ⊢; exact H)
           (try rw [hji30] at A27)
           (try rw [hji30] at A28)
           have hji30w : (IntKind.i64.wrap ((wrap64 ((wrap64 ((wrap64 ((wrap64 (x13_1 * a0_5)) + a2)) * a0_0)) * a0_1)) + x14_3)) = ji30 := (i64_w _).trans hji30
           by_cases c31 : 0 ≤ (ji30)
           ·rw [if_pos c31] at H
            have c31b0 : decide (0 ≤ (ji30)) = true := decide_eq_true c31
            clear c31
            by_cases c32 : (ji30) < (l0_8.length : Int)
            ·rw [if_pos c32] at H
             have c32b0 : decide ((ji30) < (l0_8.length : Int)) = true := decide_eq_true c32
             clear c32
             by_cases c33 : x12_3 = true
             ·subst c33
              have H1 : ((isobathref03_hull.f x191000_3 x191001_3 ((rd_T33 l0_8 (ji30)).f0.f0) ((rd_T33 l0_8 (ji30)).f0.f1)).bind fun bt198 => ((isobathref03_hull.f x191002_3 x191003_3 ((rd_T33 l0_8 (ji30)).f1.f0) ((rd_T33 l0_8 (ji30)).f1.f1)).bind fun bt200 => (isobathref03_at.l1 k3 a2 a3 a4 true x13_1 (wrap64 (x14_3 + 1)) a0_0 a0_1 a0_2 a0_3 a0_4 a0_5 a0_6 l0_7 l0_8 a1_0 a1_1 a1_2 a1_3 bt198.1 bt198.2 bt200.1 bt200.2))) = some (r1, r2, r3, r4) := by rw [if_pos rfl] at H; exact H
              clear H
              have H := H1
              clear H1
              replace H := Option.bind_eq_some_iff.mp H
              obtain ⟨⟨t198, t199⟩, A340, H⟩ := H
              replace H : ((isobathref03_hull.f x191002_3 x191003_3 ((rd_T33 l0_8 (ji30)).f1.f0) ((rd_T33 l0_8 (ji30)).f1.f1)).bind fun bt200 => (isobathref03_at.l1 k3 a2 a3 a4 true x13_1 (wrap64 (x14_3 + 1)) a0_0 a0_1 a0_2 a0_3 a0_4 a0_5 a0_6 l0_7 l0_8 a1_0 a1_1 a1_2 a1_3 t198 t199 bt200.1 bt200.2)) = some (r1, r2, r3, r4) := H
              have A34 := Aside0.mk A340
              clear A340
              replace H := Option.bind_eq_some_iff.mp H
              obtain ⟨⟨t200, t201⟩, A350, H⟩ := H
              replace H : (isobathref03_at.l1 k3 a2 a3 a4 true x13_1 (wrap64 (x14_3 + 1)) a0_0 a0_1 a0_2 a0_3 a0_4 a0_5 a0_6 l0_7 l0_8 a1_0 a1_1 a1_2 a1_3 t198 t199 t200 t201) = some (r1, r2, r3, r4) := H
              have A35 := Aside0.mk A350
              clear A350
              have H' := Aside0.mk H
              clear H
              have hnb36 := NB187_188.out
              have hnc36 := NB188_187.out
              have hnb37 := NB187_189.out
              have hnc37 := NB189_187.out
              have hnb38 := NB187_190.out
              have hnc38 := NB190_187.out
              obtain ⟨hcz39_0, hcz39_1, hcz39_2, hcz39_3, hcz39_4, hcz39_5, hcz39_6, hcz39_7, hcz39_8, hfz39_0, hfz39_1, hfz39_2, hfz39_3, hfz39_4, hfz39_5, hfz39_6, hfz39_7, hfz39_8⟩ := zce9 BK187.out
              try go_wp2
              replace BK187 := Aside0.mk (blk_drew BK187.out)
              replace BK188 := Aside0.mk (blk_drew BK188.out)
              replace BK189 := Aside0.mk (blk_drew BK189.out)
              replace BK190 := Aside0.mk (blk_drew BK190.out)
              replace HB := Aside0.mk (below_drew1 HB.out)
              refine start_ (n := 6) (S := fun w' => w'.cell? ⟨gb188, 0, none⟩ = some (.int .i64 a1_0) ∧ w'.cell? ⟨gb188, 1, none⟩ = some (.int .i64 a1_1) ∧ w'.cell? ⟨gb188, 2, none⟩ = some (.int .i64 a1_2) ∧ w'.cell? ⟨gb188, 3, none⟩ = some (.int .i64 a1_3) ∧ w'.cell? ⟨gb187, 0, none⟩ = some (.int .i64 a0_0) ∧ w'.cell? ⟨gb187, 1, none⟩ = some (.int .i64 a0_1) ∧ w'.cell? ⟨gb187, 2, none⟩ = some (.int .i64 a0_2) ∧ w'.cell? ⟨gb187, 3, none⟩ = some (.int .i64 a0_3) ∧ w'.cell? ⟨gb187, 4, none⟩ = some (.int .i64 a0_4) ∧ w'.cell? ⟨gb187, 5, none⟩ = some (.int .i64 a0_5) ∧ w'.cell? ⟨gb187, 6, none⟩ = some (.int .i64 a0_6) ∧ w'.cell? ⟨gb187, 7, none⟩ = some (.slice A0_7 l0_7.length c0_7) ∧ w'.cell? ⟨gb187, 8, none⟩ = some (.slice A0_8 l0_8.length c0_8)) (ds := []) #[false, false, false, false, false, false] zq0 rfl rfl ⟨(blk_cell BK188.out 0).trans rfl, (blk_cell BK188.out 1).trans rfl, (blk_cell BK188.out 2).trans rfl, (blk_cell BK188.out 3).trans rfl, zcs9 BK187.out⟩ (fun hHeld => ?_)
              generalize wr.drew = w40 at BK187 BK188 BK189 BK190 HB hHeld ⊢
              refine zpz (i := 2) (N := some 48) zq0 ?_
              refine ztz (i := 0) (N := some 46) zq0 hHeld ?_
              refine ztz (i := 1) (N := some 47) zq0 hHeld ?_
              refine one_ (i := 3) (N := some 49) #[true, true, true, true, false, false] rfl rfl zq0 (by decide) (fun K hK => ?_)
              refine goes_ Try.func118 zq0 rfl #[.agg #[.int .i64 a0_0, .int .i64 a0_1, .int .i64 a0_2, .int .i64 a0_3, .int .i64 a0_4, .int .i64 a0_5, .int .i64 a0_6, .slice A0_7 l0_7.length c0_7, .slice A0_8 l0_8.length c0_8], .int .i64 x14_3] (by rfl) rfl rfl zq6 ?_
              with_reducible refine (isobathref03_Cell.calls a0_0 a0_1 a0_2 a0_3 a0_4 a0_5 a0_6 _ _ l0_7 _ _ l0_8 x14_3 t191 t192 t193 t194 _ ?side1 ?side2 ?side3 ?side4 A27.out).mono ?_
              (case side1 => repeat (first | exact (Kd.C_below HR0_7.out HB.out) | (with_reducible refine Kd.C_alloc ?_ _) | (with_reducible refine Kd.C_drewN ?_ _) | (with_reducible refine Kd.C_drew ?_)))
              (case side2 => exact HC0_7.out)
              (case side3 => repeat (first | exact (Kd.C_below HR0_8.out HB.out) | (with_reducible refine Kd.C_alloc ?_ _) | (with_reducible refine Kd.C_drewN ?_ _) | (with_reducible refine Kd.C_drew ?_)))
              (case side4 => exact HC0_8.out)
              rintro e w41 ⟨rfl, hb⟩
              refine ⟨_, rfl, ?_⟩
              replace BK187 := zbb BK187 hb
              replace BK188 := zbb BK188 hb
              replace BK189 := zbb BK189 hb
              replace BK190 := zbb BK190 hb
              replace HB := zbs HB hb
              (try clear hb)
              (try clear hb2)
              (try clear hk)
              (try clear hi)
              refine hK.out _ _ ⟨(blk_cell BK188.out 0).trans rfl, (blk_cell BK188.out 1).trans rfl, (blk_cell BK188.out 2).trans rfl, (blk_cell BK188.out 3).trans rfl, zcs9 BK187.out⟩ (fun hHeld => ?_)
              clear hK K
              refine norm_ zq15 ?_
              refine one_ (i := 4) (N := some 50) #[true, true, true, true, true, false] rfl rfl zq0 (by decide) (fun K hK => ?_)
              refine goes_ Try.func117 zq0 rfl #[.agg #[.int .i64 a1_0, .int .i64 a1_1, .int .i64 a1_2, .int .i64 a1_3], .agg #[.int .i64 t191, .int .i64 t192, .int .i64 t193, .int .i64 t194]] (by rfl) rfl rfl zq6 ?_
              with_reducible refine (isobathref03_touches.calls a1_0 a1_1 a1_2 a1_3 t191 t192 t193 t194 true _ A28.out).mono ?_
              rintro e w42 ⟨rfl, hb⟩
              refine ⟨_, rfl, ?_⟩
              replace BK187 := zbb BK187 hb
              replace BK188 := zbb BK188 hb
              replace BK189 := zbb BK189 hb
              replace BK190 := zbb BK190 hb
              replace HB := zbs HB hb
              (try clear hb)
              (try clear hb2)
              (try clear hk)
              (try clear hi)
              refine hK.out _ _ ⟨(blk_cell BK188.out 0).trans rfl, (blk_cell BK188.out 1).trans rfl, (blk_cell BK188.out 2).trans rfl, (blk_cell BK188.out 3).trans rfl, zcs9 BK187.out⟩ (fun hHeld => ?_)
              clear hK K
              refine norm_ zq16 ?_
              refine zpz (i := 5) (N := some 51) zq0 ?_
              refine done_ zq0 ?_
              obtain ⟨hcz43_0, hcz43_1, hcz43_2, hcz43_3, hcz43_4, hcz43_5, hcz43_6, hcz43_7, hcz43_8, hfz43_0, hfz43_1, hfz43_2, hfz43_3, hfz43_4, hfz43_5, hfz43_6, hfz43_7, hfz43_8⟩ := zce9 BK187.out
              have p196 : 0 ≤ ((ji30) : Int) := of_decide_eq_true zq4
              have q196 : (ji30) < (l0_8.length : Int) := of_decide_eq_true zq4
              obtain ⟨ad196, e196, hx196_0, hx196_1, hx196_2, hx196_3⟩ := at_T33 HR0_8.out (ji30) p196 q196
              cases e196
              replace hx196_0 := (HB.out.cell (World.block_lt_of_cell? w _ hx196_0)).trans hx196_0
              replace hx196_1 := (HB.out.cell (World.block_lt_of_cell? w _ hx196_1)).trans hx196_1
              replace hx196_2 := (HB.out.cell (World.block_lt_of_cell? w _ hx196_2)).trans hx196_2
              replace hx196_3 := (HB.out.cell (World.block_lt_of_cell? w _ hx196_3)).trans hx196_3
              replace p196 := eq_true p196
              replace q196 := eq_true q196
              try go_wp2_with (first | ((with_reducible refine gate_dst (N := 15) rfl ?_); refine box_event (by rfl) (N := 15) (by rfl) (cs := #[.int .i64 0, .int .i64 0, .int .i64 0, .int .i64 0]) (t := 33) zq1 ?_; intro gb197 hg w44 hbox hb; have BK197 := Aside0.mk (hbox); have GW197 := zgs HB hg; have GE197 := zgs HB hg; have NB187_197 := znp BK187 hg; have NB197_187 := znq BK187 hg; have NB188_197 := znp BK188 hg; have NB197_188 := znq BK188 hg; have NB189_197 := znp BK189 hg; have NB197_189 := znq BK189 hg; have NB190_197 := znp BK190 hg; have NB197_190 := znq BK190 hg; replace BK187 := zbb BK187 hb; replace BK188 := zbb BK188 hb; replace BK189 := zbb BK189 hb; replace BK190 := zbb BK190 hb; replace HB := zbs HB hb; clear hb hbox hg; have hnb45 := NB197_187.out; have hnc45 := NB187_197.out; have hnb46 := NB197_188.out; have hnc46 := NB188_197.out; have hnb47 := NB197_189.out; have hnc47 := NB189_197.out; have hnb48 := NB197_190.out; have hnc48 := NB190_197.out; obtain ⟨hcz49_0, hcz49_1, hcz49_2, hcz49_3, hfz49_0, hfz49_1, hfz49_2, hfz49_3⟩ := zce4 BK197.out))
              have n0_ : Aside0 (((((w44.setCell ⟨gb197, 0, none⟩ (.int .i64 ((rd_T33 l0_8 (ji30)).f0.f0))).setCell ⟨gb197, 1, none⟩ (.int .i64 ((rd_T33 l0_8 (ji30)).f0.f1))).setCell ⟨gb197, 2, none⟩ (.int .i64 ((rd_T33 l0_8 (ji30)).f1.f0))).setCell ⟨gb197, 3, none⟩ (.int .i64 ((rd_T33 l0_8 (ji30)).f1.f1))).heap[gb187]? = some (.cells #[.int .i64 a0_0, .int .i64 a0_1, .int .i64 a0_2, .int .i64 a0_3, .int .i64 a0_4, .int .i64 a0_5, .int .i64 a0_6, .slice A0_7 l0_7.length c0_7, .slice (some ad196) l0_8.length c0_8] 25 (0, 0))) := ⟨zbf⟩
              have n1_ : Aside0 (((((w44.setCell ⟨gb197, 0, none⟩ (.int .i64 ((rd_T33 l0_8 (ji30)).f0.f0))).setCell ⟨gb197, 1, none⟩ (.int .i64 ((rd_T33 l0_8 (ji30)).f0.f1))).setCell ⟨gb197, 2, none⟩ (.int .i64 ((rd_T33 l0_8 (ji30)).f1.f0))).setCell ⟨gb197, 3, none⟩ (.int .i64 ((rd_T33 l0_8 (ji30)).f1.f1))).heap[gb188]? = some (.cells #[.int .i64 a1_0, .int .i64 a1_1, .int .i64 a1_2, .int .i64 a1_3] 29 (0, 0))) := ⟨zbf⟩
              have n2_ : Aside0 (((((w44.setCell ⟨gb197, 0, none⟩ (.int .i64 ((rd_T33 l0_8 (ji30)).f0.f0))).setCell ⟨gb197, 1, none⟩ (.int .i64 ((rd_T33 l0_8 (ji30)).f0.f1))).setCell ⟨gb197, 2, none⟩ (.int .i64 ((rd_T33 l0_8 (ji30)).f1.f0))).setCell ⟨gb197, 3, none⟩ (.int .i64 ((rd_T33 l0_8 (ji30)).f1.f1))).heap[gb189]? = some (.cells #[.int .i64 0, .int .i64 0, .int .i64 0, .int .i64 0] 33 (0, 0))) := ⟨zbf⟩
              have n3_ : Aside0 (((((w44.setCell ⟨gb197, 0, none⟩ (.int .i64 ((rd_T33 l0_8 (ji30)).f0.f0))).setCell ⟨gb197, 1, none⟩ (.int .i64 ((rd_T33 l0_8 (ji30)).f0.f1))).setCell ⟨gb197, 2, none⟩ (.int .i64 ((rd_T33 l0_8 (ji30)).f1.f0))).setCell ⟨gb197, 3, none⟩ (.int .i64 ((rd_T33 l0_8 (ji30)).f1.f1))).heap[gb190]? = some (.cells #[.int .i64 x191000_3, .int .i64 x191001_3, .int .i64 x191002_3, .int .i64 x191003_3] 33 (0, 0))) := ⟨zbf⟩
              have n4_ : Aside0 (((((w44.setCell ⟨gb197, 0, none⟩ (.int .i64 ((rd_T33 l0_8 (ji30)).f0.f0))).setCell ⟨gb197, 1, none⟩ (.int .i64 ((rd_T33 l0_8 (ji30)).f0.f1))).setCell ⟨gb197, 2, none⟩ (.int .i64 ((rd_T33 l0_8 (ji30)).f1.f0))).setCell ⟨gb197, 3, none⟩ (.int .i64 ((rd_T33 l0_8 (ji30)).f1.f1))).heap[gb197]? = some (.cells #[.int .i64 ((rd_T33 l0_8 (ji30)).f0.f0), .int .i64 ((rd_T33 l0_8 (ji30)).f0.f1), .int .i64 ((rd_T33 l0_8 (ji30)).f1.f0), .int .i64 ((rd_T33 l0_8 (ji30)).f1.f1)] 33 (0, 0))) := ⟨by (with_reducible repeat (first | refine blk_drewN ?_ _ | refine blk_drew ?_ | refine blk_alloc ?_ _)); refine blk_put (cs := #[.int .i64 ((rd_T33 l0_8 (ji30)).f0.f0), .int .i64 ((rd_T33 l0_8 (ji30)).f0.f1), .int .i64 ((rd_T33 l0_8 (ji30)).f1.f0), .int .i64 0]) ?_ 3 _ rfl; (with_reducible repeat (first | refine blk_drewN ?_ _ | refine blk_drew ?_ | refine blk_alloc ?_ _)); refine blk_put (cs := #[.int .i64 ((rd_T33 l0_8 (ji30)).f0.f0), .int .i64 ((rd_T33 l0_8 (ji30)).f0.f1), .int .i64 0, .int .i64 0]) ?_ 2 _ rfl; (with_reducible repeat (first | refine blk_drewN ?_ _ | refine blk_drew ?_ | refine blk_alloc ?_ _)); refine blk_put (cs := #[.int .i64 ((rd_T33 l0_8 (ji30)).f0.f0), .int .i64 0, .int .i64 0, .int .i64 0]) ?_ 1 _ rfl; (with_reducible repeat (first | refine blk_drewN ?_ _ | refine blk_drew ?_ | refine blk_alloc ?_ _)); refine blk_put (cs := #[.int .i64 0, .int .i64 0, .int .i64 0, .int .i64 0]) ?_ 0 _ rfl; (with_reducible repeat (first | refine blk_drewN ?_ _ | refine blk_drew ?_ | refine blk_alloc ?_ _)); exact BK197.out⟩
              have n5_ : Aside0 (Below w.heap.size w ((((w44.setCell ⟨gb197, 0, none⟩ (.int .i64 ((rd_T33 l0_8 (ji30)).f0.f0))).setCell ⟨gb197, 1, none⟩ (.int .i64 ((rd_T33 l0_8 (ji30)).f0.f1))).setCell ⟨gb197, 2, none⟩ (.int .i64 ((rd_T33 l0_8 (ji30)).f1.f0))).setCell ⟨gb197, 3, none⟩ (.int .i64 ((rd_T33 l0_8 (ji30)).f1.f1)))) := ⟨zbz⟩
              (try clear BK187)
              (try clear BK188)
              (try clear BK189)
              (try clear BK190)
              (try clear BK197)
              (try clear HB)
              generalize ((((w44.setCell ⟨gb197, 0, none⟩ (.int .i64 ((rd_T33 l0_8 (ji30)).f0.f0))).setCell ⟨gb197, 1, none⟩ (.int .i64 ((rd_T33 l0_8 (ji30)).f0.f1))).setCell ⟨gb197, 2, none⟩ (.int .i64 ((rd_T33 l0_8 (ji30)).f1.f0))).setCell ⟨gb197, 3, none⟩ (.int .i64 ((rd_T33 l0_8 (ji30)).f1.f1))) = w50 at n0_ n1_ n2_ n3_ n4_ n5_ ⊢
              have BK187 := n0_
              have BK188 := n1_
              have BK189 := n2_
              have BK190 := n3_
              have BK197 := n4_
              have HB := n5_
              clear n0_ n1_ n2_ n3_ n4_ n5_
              replace BK187 := Aside0.mk (blk_drew BK187.out)
              replace BK188 := Aside0.mk (blk_drew BK188.out)
              replace BK189 := Aside0.mk (blk_drew BK189.out)
              replace BK190 := Aside0.mk (blk_drew BK190.out)
              replace BK197 := Aside0.mk (blk_drew BK197.out)
              replace HB := Aside0.mk (below_drew1 HB.out)
              refine start_ (n := 12) (S := fun w' => w'.cell? ⟨gb190, 0, none⟩ = some (.int .i64 x191000_3) ∧ w'.cell? ⟨gb190, 1, none⟩ = some (.int .i64 x191001_3) ∧ w'.cell? ⟨gb190, 2, none⟩ = some (.int .i64 x191002_3) ∧ w'.cell? ⟨gb190, 3, none⟩ = some (.int .i64 x191003_3) ∧ w'.cell? ⟨gb197, 0, none⟩ = some (.int .i64 ((rd_T33 l0_8 (ji30)).f0.f0)) ∧ w'.cell? ⟨gb197, 1, none⟩ = some (.int .i64 ((rd_T33 l0_8 (ji30)).f0.f1)) ∧ w'.cell? ⟨gb197, 2, none⟩ = some (.int .i64 ((rd_T33 l0_8 (ji30)).f1.f0)) ∧ w'.cell? ⟨gb197, 3, none⟩ = some (.int .i64 ((rd_T33 l0_8 (ji30)).f1.f1))) (ds := [11]) #[false, false, false, false, false, false, false, false, false, false, false, false] zq0 rfl rfl (zca4 BK190.out (zcs4 BK197.out)) (fun hHeld => ?_); refine with_tabW isobathref03_at.tab13 isobathref03_at.bits13 (fun HT_ HW_ => ?_)
              generalize w50.drew = w51 at BK187 BK188 BK189 BK190 BK197 HB hHeld ⊢
              refine zpz (i := 0) (N := some 71) (any_of HT_.out zq0) ?_
              refine zpz (i := 2) (N := some 73) (any_of HT_.out zq0) ?_
              refine zpz (i := 5) (N := some 76) (any_of HT_.out zq0) ?_
              refine zpz (i := 7) (N := some 78) (any_of HT_.out zq0) ?_
              refine ztz (i := 1) (N := some 72) (take_ofW HT_.out HW_.out zq0) hHeld ?_
              refine ztz (i := 3) (N := some 74) (take_ofW HT_.out HW_.out zq0) hHeld ?_
              refine ztz (i := 6) (N := some 77) (take_ofW HT_.out HW_.out zq0) hHeld ?_
              refine ztz (i := 8) (N := some 79) (take_ofW HT_.out HW_.out zq0) hHeld ?_
              refine one_ (i := 4) (N := some 75) #[true, true, true, true, true, true, true, true, true, false, false, false] rfl rfl (one_of HT_.out zq0) (by decide) (fun K hK => ?_)
              refine goes_ Try.func119 zq0 rfl #[.agg #[.int .i64 x191000_3, .int .i64 x191001_3], .agg #[.int .i64 ((rd_T33 l0_8 (ji30)).f0.f0), .int .i64 ((rd_T33 l0_8 (ji30)).f0.f1)]] (by rfl) rfl rfl zq17 ?_
              with_reducible refine (isobathref03_hull.calls x191000_3 x191001_3 ((rd_T33 l0_8 (ji30)).f0.f0) ((rd_T33 l0_8 (ji30)).f0.f1) t198 t199 _ A34.out).mono ?_
              rintro e w52 ⟨rfl, hb⟩
              refine ⟨_, rfl, ?_⟩
              replace BK187 := zbb BK187 hb
              replace BK188 := zbb BK188 hb
              replace BK189 := zbb BK189 hb
              replace BK190 := zbb BK190 hb
              replace BK197 := zbb BK197 hb
              replace HB := zbs HB hb
              (try clear hb)
              (try clear hb2)
              (try clear hk)
              (try clear hi)
              refine hK.out _ _ (zca4 BK190.out (zcs4 BK197.out)) (fun hHeld => ?_)
              clear hK K
              refine norm_ (by show Act.put _ (some 75) _ = _; simp only [Act.put, List.setIfInBounds_toArray, List.set_cons_zero, List.set_cons_succ, i64_w, i32_w]; rfl) ?_
              refine one_ (i := 9) (N := some 80) #[true, true, true, true, true, true, true, true, true, true, false, false] rfl rfl (one_of HT_.out zq0) (by decide) (fun K hK => ?_)
              refine goes_ Try.func119 zq0 rfl #[.agg #[.int .i64 x191002_3, .int .i64 x191003_3], .agg #[.int .i64 ((rd_T33 l0_8 (ji30)).f1.f0), .int .i64 ((rd_T33 l0_8 (ji30)).f1.f1)]] (by rfl) rfl rfl zq17 ?_
              with_reducible refine (isobathref03_hull.calls x191002_3 x191003_3 ((rd_T33 l0_8 (ji30)).f1.f0) ((rd_T33 l0_8 (ji30)).f1.f1) t200 t201 _ A35.out).mono ?_
              rintro e w53 ⟨rfl, hb⟩
              refine ⟨_, rfl, ?_⟩
              replace BK187 := zbb BK187 hb
              replace BK188 := zbb BK188 hb
              replace BK189 := zbb BK189 hb
              replace BK190 := zbb BK190 hb
              replace BK197 := zbb BK197 hb
              replace HB := zbs HB hb
              (try clear hb)
              (try clear hb2)
              (try clear hk)
              (try clear hi)
              refine hK.out _ _ (zca4 BK190.out (zcs4 BK197.out)) (fun hHeld => ?_)
              clear hK K
              refine norm_ (by show Act.put _ (some 80) _ = _; simp only [Act.put, List.setIfInBounds_toArray, List.set_cons_zero, List.set_cons_succ, i64_w, i32_w]; rfl) ?_
              refine zpz (i := 10) (N := some 81) (any_of HT_.out zq0) ?_
              refine last_ (i := 11) (N := none) #[true, true, true, true, true, true, true, true, true, true, true, true] rfl rfl (one_of HT_.out zq0) (by decide) (fun K hK => ?_)
              have hs54 : w53.cell? ⟨gb197, 0, none⟩ = some (.int .i64 ((rd_T33 l0_8 (ji30)).f0.f0)) := (blk_cell BK197.out 0).trans rfl
              have hfs54 := blk_frozen BK197.out 0
              have hns54_0 := NB187_197.out
              have hns54_1 := NB188_197.out
              have hns54_2 := NB189_197.out
              have hns54_3 := NB190_197.out
              have hms54_0 := NB197_187.out
              have hms54_1 := NB197_188.out
              have hms54_2 := NB197_189.out
              have hms54_3 := NB197_190.out
              have hs55 : w53.cell? ⟨gb197, 1, none⟩ = some (.int .i64 ((rd_T33 l0_8 (ji30)).f0.f1)) := (blk_cell BK197.out 1).trans rfl
              have hfs55 := blk_frozen BK197.out 1
              have hns55_0 := NB187_197.out
              have hns55_1 := NB188_197.out
              have hns55_2 := NB189_197.out
              have hns55_3 := NB190_197.out
              have hms55_0 := NB197_187.out
              have hms55_1 := NB197_188.out
              have hms55_2 := NB197_189.out
              have hms55_3 := NB197_190.out
              have hs56 : w53.cell? ⟨gb197, 2, none⟩ = some (.int .i64 ((rd_T33 l0_8 (ji30)).f1.f0)) := (blk_cell BK197.out 2).trans rfl
              have hfs56 := blk_frozen BK197.out 2
              have hns56_0 := NB187_197.out
              have hns56_1 := NB188_197.out
              have hns56_2 := NB189_197.out
              have hns56_3 := NB190_197.out
              have hms56_0 := NB197_187.out
              have hms56_1 := NB197_188.out
              have hms56_2 := NB197_189.out
              have hms56_3 := NB197_190.out
              have hs57 : w53.cell? ⟨gb197, 3, none⟩ = some (.int .i64 ((rd_T33 l0_8 (ji30)).f1.f1)) := (blk_cell BK197.out 3).trans rfl
              have hfs57 := blk_frozen BK197.out 3
              have hns57_0 := NB187_197.out
              have hns57_1 := NB188_197.out
              have hns57_2 := NB189_197.out
              have hns57_3 := NB190_197.out
              have hms57_0 := NB197_187.out
              have hms57_1 := NB197_188.out
              have hms57_2 := NB197_189.out
              have hms57_3 := NB197_190.out
              refine skip_ (w1 := ?_) (by rfl) rfl ?_ ?_
              rotate_left
              ·go_simp
               rfl
              refine hK.out _ _ ?_
              clear hK K
              refine done_ (done_of HT_.out zq0) ?_
              obtain ⟨hcz58_0, hcz58_1, hcz58_2, hcz58_3, hfz58_0, hfz58_1, hfz58_2, hfz58_3⟩ := zce4 BK197.out
              have hnb59 := NB190_188.out
              have hnc59 := NB188_190.out
              have hnb60 := NB190_189.out
              have hnc60 := NB189_190.out
              obtain ⟨hcz61_0, hcz61_1, hcz61_2, hcz61_3, hfz61_0, hfz61_1, hfz61_2, hfz61_3⟩ := zce4 BK190.out
              try go_wp2
              go_roundg k3
              case measure => have := HK1.out; have := HJ10.out; have := HK3.out; omega
              case rel => exact ⟨(true), (wrap64 (x14_3 + 1)), (t198), (t199), (t200), (t201), zq3, zq3, H', ⟨zq18⟩, ⟨zbf⟩, ⟨zbf⟩, ⟨zbf⟩, ⟨by (with_reducible repeat (first | refine blk_drewN ?_ _ | refine blk_drew ?_ | refine blk_alloc ?_ _)); refine blk_put (cs := #[.int .i64 t198, .int .i64 t199, .int .i64 t200, .int .i64 x191003_3]) ?_ 3 _ rfl; (with_reducible repeat (first | refine blk_drewN ?_ _ | refine blk_drew ?_ | refine blk_alloc ?_ _)); refine blk_put (cs := #[.int .i64 t198, .int .i64 t199, .int .i64 x191002_3, .int .i64 x191003_3]) ?_ 2 _ rfl; (with_reducible repeat (first | refine blk_drewN ?_ _ | refine blk_drew ?_ | refine blk_alloc ?_ _)); refine blk_put (cs := #[.int .i64 t198, .int .i64 x191001_3, .int .i64 x191002_3, .int .i64 x191003_3]) ?_ 1 _ rfl; (with_reducible repeat (first | refine blk_drewN ?_ _ | refine blk_drew ?_ | refine blk_alloc ?_ _)); refine blk_put (cs := #[.int .i64 x191000_3, .int .i64 x191001_3, .int .i64 x191002_3, .int .i64 x191003_3]) ?_ 0 _ rfl; (with_reducible repeat (first | refine blk_drewN ?_ _ | refine blk_drew ?_ | refine blk_alloc ?_ _)); refine blk_far ?_ NB190_197.out _; (with_reducible repeat (first | refine blk_drewN ?_ _ | refine blk_drew ?_ | refine blk_alloc ?_ _)); refine blk_far ?_ NB190_197.out _; (with_reducible repeat (first | refine blk_drewN ?_ _ | refine blk_drew ?_ | refine blk_alloc ?_ _)); refine blk_far ?_ NB190_197.out _; (with_reducible repeat (first | refine blk_drewN ?_ _ | refine blk_drew ?_ | refine blk_alloc ?_ _)); refine blk_far ?_ NB190_197.out _; (with_reducible repeat (first | refine blk_drewN ?_ _ | refine blk_drew ?_ | refine blk_alloc ?_ _)); exact BK190.out⟩, ⟨zbz⟩⟩
             ·replace c33 := Bool.eq_false_iff.mpr c33
              subst c33
              have H1 : (isobathref03_at.l1 k3 a2 a3 a4 true x13_1 (wrap64 (x14_3 + 1)) a0_0 a0_1 a0_2 a0_3 a0_4 a0_5 a0_6 l0_7 l0_8 a1_0 a1_1 a1_2 a1_3 ((rd_T33 l0_8 (ji30)).f0.f0) ((rd_T33 l0_8 (ji30)).f0.f1) ((rd_T33 l0_8 (ji30)).f1.f0) ((rd_T33 l0_8 (ji30)).f1.f1)) = some (r1, r2, r3, r4) := by rw [if_neg (show ¬ (false = true) by decide)] at H; exact H
              clear H
              have H := H1
              clear H1
              have H' := Aside0.mk H
              clear H
              have hnb62 := NB187_188.out
              have hnc62 := NB188_187.out
              have hnb63 := NB187_189.out
              have hnc63 := NB189_187.out
              have hnb64 := NB187_190.out
              have hnc64 := NB190_187.out
              obtain ⟨hcz65_0, hcz65_1, hcz65_2, hcz65_3, hcz65_4, hcz65_5, hcz65_6, hcz65_7, hcz65_8, hfz65_0, hfz65_1, hfz65_2, hfz65_3, hfz65_4, hfz65_5, hfz65_6, hfz65_7, hfz65_8⟩ := zce9 BK187.out
              try go_wp2
              replace BK187 := Aside0.mk (blk_drew BK187.out)
              replace BK188 := Aside0.mk (blk_drew BK188.out)
              replace BK189 := Aside0.mk (blk_drew BK189.out)
              replace BK190 := Aside0.mk (blk_drew BK190.out)
              replace HB := Aside0.mk (below_drew1 HB.out)
              refine start_ (n := 6) (S := fun w' => w'.cell? ⟨gb188, 0, none⟩ = some (.int .i64 a1_0) ∧ w'.cell? ⟨gb188, 1, none⟩ = some (.int .i64 a1_1) ∧ w'.cell? ⟨gb188, 2, none⟩ = some (.int .i64 a1_2) ∧ w'.cell? ⟨gb188, 3, none⟩ = some (.int .i64 a1_3) ∧ w'.cell? ⟨gb187, 0, none⟩ = some (.int .i64 a0_0) ∧ w'.cell? ⟨gb187, 1, none⟩ = some (.int .i64 a0_1) ∧ w'.cell? ⟨gb187, 2, none⟩ = some (.int .i64 a0_2) ∧ w'.cell? ⟨gb187, 3, none⟩ = some (.int .i64 a0_3) ∧ w'.cell? ⟨gb187, 4, none⟩ = some (.int .i64 a0_4) ∧ w'.cell? ⟨gb187, 5, none⟩ = some (.int .i64 a0_5) ∧ w'.cell? ⟨gb187, 6, none⟩ = some (.int .i64 a0_6) ∧ w'.cell? ⟨gb187, 7, none⟩ = some (.slice A0_7 l0_7.length c0_7) ∧ w'.cell? ⟨gb187, 8, none⟩ = some (.slice A0_8 l0_8.length c0_8)) (ds := []) #[false, false, false, false, false, false] zq0 rfl rfl ⟨(blk_cell BK188.out 0).trans rfl, (blk_cell BK188.out 1).trans rfl, (blk_cell BK188.out 2).trans rfl, (blk_cell BK188.out 3).trans rfl, zcs9 BK187.out⟩ (fun hHeld => ?_)
              generalize wr.drew = w66 at BK187 BK188 BK189 BK190 HB hHeld ⊢
              refine zpz (i := 2) (N := some 48) zq0 ?_
              refine ztz (i := 0) (N := some 46) zq0 hHeld ?_
              refine ztz (i := 1) (N := some 47) zq0 hHeld ?_
              refine one_ (i := 3) (N := some 49) #[true, true, true, true, false, false] rfl rfl zq0 (by decide) (fun K hK => ?_)
              refine goes_ Try.func118 zq0 rfl #[.agg #[.int .i64 a0_0, .int .i64 a0_1, .int .i64 a0_2, .int .i64 a0_3, .int .i64 a0_4, .int .i64 a0_5, .int .i64 a0_6, .slice A0_7 l0_7.length c0_7, .slice A0_8 l0_8.length c0_8], .int .i64 x14_3] (by rfl) rfl rfl zq6 ?_
              with_reducible refine (isobathref03_Cell.calls a0_0 a0_1 a0_2 a0_3 a0_4 a0_5 a0_6 _ _ l0_7 _ _ l0_8 x14_3 t191 t192 t193 t194 _ ?side1 ?side2 ?side3 ?side4 A27.out).mono ?_
              (case side1 => repeat (first | exact (Kd.C_below HR0_7.out HB.out) | (with_reducible refine Kd.C_alloc ?_ _) | (with_reducible refine Kd.C_drewN ?_ _) | (with_reducible refine Kd.C_drew ?_)))
              (case side2 => exact HC0_7.out)
              (case side3 => repeat (first | exact (Kd.C_below HR0_8.out HB.out) | (with_reducible refine Kd.C_alloc ?_ _) | (with_reducible refine Kd.C_drewN ?_ _) | (with_reducible refine Kd.C_drew ?_)))
              (case side4 => exact HC0_8.out)
              rintro e w67 ⟨rfl, hb⟩
              refine ⟨_, rfl, ?_⟩
              replace BK187 := zbb BK187 hb
              replace BK188 := zbb BK188 hb
              replace BK189 := zbb BK189 hb
              replace BK190 := zbb BK190 hb
              replace HB := zbs HB hb
              (try clear hb)
              (try clear hb2)
              (try clear hk)
              (try clear hi)
              refine hK.out _ _ ⟨(blk_cell BK188.out 0).trans rfl, (blk_cell BK188.out 1).trans rfl, (blk_cell BK188.out 2).trans rfl, (blk_cell BK188.out 3).trans rfl, zcs9 BK187.out⟩ (fun hHeld => ?_)
              clear hK K
              refine norm_ zq15 ?_
              refine one_ (i := 4) (N := some 50) #[true, true, true, true, true, false] rfl rfl zq0 (by decide) (fun K hK => ?_)
              refine goes_ Try.func117 zq0 rfl #[.agg #[.int .i64 a1_0, .int .i64 a1_1, .int .i64 a1_2, .int .i64 a1_3], .agg #[.int .i64 t191, .int .i64 t192, .int .i64 t193, .int .i64 t194]] (by rfl) rfl rfl zq6 ?_
              with_reducible refine (isobathref03_touches.calls a1_0 a1_1 a1_2 a1_3 t191 t192 t193 t194 true _ A28.out).mono ?_
              rintro e w68 ⟨rfl, hb⟩
              refine ⟨_, rfl, ?_⟩
              replace BK187 := zbb BK187 hb
              replace BK188 := zbb BK188 hb
              replace BK189 := zbb BK189 hb
              replace BK190 := zbb BK190 hb
              replace HB := zbs HB hb
              (try clear hb)
              (try clear hb2)
              (try clear hk)
              (try clear hi)
              refine hK.out _ _ ⟨(blk_cell BK188.out 0).trans rfl, (blk_cell BK188.out 1).trans rfl, (blk_cell BK188.out 2).trans rfl, (blk_cell BK188.out 3).trans rfl, zcs9 BK187.out⟩ (fun hHeld => ?_)
              clear hK K
              refine norm_ zq16 ?_
              refine zpz (i := 5) (N := some 51) zq0 ?_
              refine done_ zq0 ?_
              obtain ⟨hcz69_0, hcz69_1, hcz69_2, hcz69_3, hcz69_4, hcz69_5, hcz69_6, hcz69_7, hcz69_8, hfz69_0, hfz69_1, hfz69_2, hfz69_3, hfz69_4, hfz69_5, hfz69_6, hfz69_7, hfz69_8⟩ := zce9 BK187.out
              have p196 : 0 ≤ ((ji30) : Int) := of_decide_eq_true zq4
              have q196 : (ji30) < (l0_8.length : Int) := of_decide_eq_true zq4
              obtain ⟨ad196, e196, hx196_0, hx196_1, hx196_2, hx196_3⟩ := at_T33 HR0_8.out (ji30) p196 q196
              cases e196
              replace hx196_0 := (HB.out.cell (World.block_lt_of_cell? w _ hx196_0)).trans hx196_0
              replace hx196_1 := (HB.out.cell (World.block_lt_of_cell? w _ hx196_1)).trans hx196_1
              replace hx196_2 := (HB.out.cell (World.block_lt_of_cell? w _ hx196_2)).trans hx196_2
              replace hx196_3 := (HB.out.cell (World.block_lt_of_cell? w _ hx196_3)).trans hx196_3
              replace p196 := eq_true p196
              replace q196 := eq_true q196
              try go_wp2_with (first | ((with_reducible refine gate_dst (N := 15) rfl ?_); refine box_event (by rfl) (N := 15) (by rfl) (cs := #[.int .i64 0, .int .i64 0, .int .i64 0, .int .i64 0]) (t := 33) zq1 ?_; intro gb197 hg w70 hbox hb; have BK197 := Aside0.mk (hbox); have GW197 := zgs HB hg; have GE197 := zgs HB hg; have NB187_197 := znp BK187 hg; have NB197_187 := znq BK187 hg; have NB188_197 := znp BK188 hg; have NB197_188 := znq BK188 hg; have NB189_197 := znp BK189 hg; have NB197_189 := znq BK189 hg; have NB190_197 := znp BK190 hg; have NB197_190 := znq BK190 hg; replace BK187 := zbb BK187 hb; replace BK188 := zbb BK188 hb; replace BK189 := zbb BK189 hb; replace BK190 := zbb BK190 hb; replace HB := zbs HB hb; clear hb hbox hg; have hnb71 := NB197_187.out; have hnc71 := NB187_197.out; have hnb72 := NB197_188.out; have hnc72 := NB188_197.out; have hnb73 := NB197_189.out; have hnc73 := NB189_197.out; have hnb74 := NB197_190.out; have hnc74 := NB190_197.out; obtain ⟨hcz75_0, hcz75_1, hcz75_2, hcz75_3, hfz75_0, hfz75_1, hfz75_2, hfz75_3⟩ := zce4 BK197.out; have hnb76 := NB190_188.out; have hnc76 := NB188_190.out; have hnb77 := NB190_189.out; have hnc77 := NB189_190.out; obtain ⟨hcz78_0, hcz78_1, hcz78_2, hcz78_3, hfz78_0, hfz78_1, hfz78_2, hfz78_3⟩ := zce4 BK190.out))
              go_roundg k3
              case measure => have := HK1.out; have := HJ10.out; have := HK3.out; omega
              case rel => exact ⟨(true), (wrap64 (x14_3 + 1)), ((rd_T33 l0_8 (ji30)).f0.f0), ((rd_T33 l0_8 (ji30)).f0.f1), ((rd_T33 l0_8 (ji30)).f1.f0), ((rd_T33 l0_8 (ji30)).f1.f1), zq3, zq3, H', ⟨zq18⟩, ⟨zbf⟩, ⟨zbf⟩, ⟨zbf⟩, ⟨by (with_reducible repeat (first | refine blk_drewN ?_ _ | refine blk_drew ?_ | refine blk_alloc ?_ _)); refine blk_put (cs := #[.int .i64 ((rd_T33 l0_8 (ji30)).f0.f0), .int .i64 ((rd_T33 l0_8 (ji30)).f0.f1), .int .i64 ((rd_T33 l0_8 (ji30)).f1.f0), .int .i64 x191003_3]) ?_ 3 _ rfl; (with_reducible repeat (first | refine blk_drewN ?_ _ | refine blk_drew ?_ | refine blk_alloc ?_ _)); refine blk_put (cs := #[.int .i64 ((rd_T33 l0_8 (ji30)).f0.f0), .int .i64 ((rd_T33 l0_8 (ji30)).f0.f1), .int .i64 x191002_3, .int .i64 x191003_3]) ?_ 2 _ rfl; (with_reducible repeat (first | refine blk_drewN ?_ _ | refine blk_drew ?_ | refine blk_alloc ?_ _)); refine blk_put (cs := #[.int .i64 ((rd_T33 l0_8 (ji30)).f0.f0), .int .i64 x191001_3, .int .i64 x191002_3, .int .i64 x191003_3]) ?_ 1 _ rfl; (with_reducible repeat (first | refine blk_drewN ?_ _ | refine blk_drew ?_ | refine blk_alloc ?_ _)); refine blk_put (cs := #[.int .i64 x191000_3, .int .i64 x191001_3, .int .i64 x191002_3, .int .i64 x191003_3]) ?_ 0 _ rfl; (with_reducible repeat (first | refine blk_drewN ?_ _ | refine blk_drew ?_ | refine blk_alloc ?_ _)); refine blk_far ?_ NB190_197.out _; (with_reducible repeat (first | refine blk_drewN ?_ _ | refine blk_drew ?_ | refine blk_alloc ?_ _)); refine blk_far ?_ NB190_197.out _; (with_reducible repeat (first | refine blk_drewN ?_ _ | refine blk_drew ?_ | refine blk_alloc ?_ _)); refine blk_far ?_ NB190_197.out _; (with_reducible repeat (first | refine blk_drewN ?_ _ | refine blk_drew ?_ | refine blk_alloc ?_ _)); refine blk_far ?_ NB190_197.out _; (with_reducible repeat (first | refine blk_drewN ?_ _ | refine blk_drew ?_ | refine blk_alloc ?_ _)); exact BK190.out⟩, ⟨zbz⟩⟩
            ·rw [if_neg c32] at H
             exact absurd H (by simp)
           ·rw [if_neg c31] at H
            exact absurd H (by simp)
          ·replace c29 := Bool.eq_false_iff.mpr c29
           subst c29
           have H1 : (isobathref03_at.l1 k3 a2 a3 a4 x12_3 x13_1 (wrap64 (x14_3 + 1)) a0_0 a0_1 a0_2 a0_3 a0_4 a0_5 a0_6 l0_7 l0_8 a1_0 a1_1 a1_2 a1_3 x191000_3 x191001_3 x191002_3 x191003_3) = some (r1, r2, r3, r4) := by rw [if_neg (show ¬ (false = true) by decide)] at H; exact H
           clear H
           have H := H1
           clear H1
           have H' := Aside0.mk H
           clear H
           have hnb79 := NB187_188.out
           have hnc79 := NB188_187.out
           have hnb80 := NB187_189.out
           have hnc80 := NB189_187.out
           have hnb81 := NB187_190.out
           have hnc81 := NB190_187.out
           obtain ⟨hcz82_0, hcz82_1, hcz82_2, hcz82_3, hcz82_4, hcz82_5, hcz82_6, hcz82_7, hcz82_8, hfz82_0, hfz82_1, hfz82_2, hfz82_3, hfz82_4, hfz82_5, hfz82_6, hfz82_7, hfz82_8⟩ := zce9 BK187.out
           try go_wp2
           replace BK187 := Aside0.mk (blk_drew BK187.out)
           replace BK188 := Aside0.mk (blk_drew BK188.out)
           replace BK189 := Aside0.mk (blk_drew BK189.out)
           replace BK190 := Aside0.mk (blk_drew BK190.out)
           replace HB := Aside0.mk (below_drew1 HB.out)
           refine start_ (n := 6) (S := fun w' => w'.cell? ⟨gb188, 0, none⟩ = some (.int .i64 a1_0) ∧ w'.cell? ⟨gb188, 1, none⟩ = some (.int .i64 a1_1) ∧ w'.cell? ⟨gb188, 2, none⟩ = some (.int .i64 a1_2) ∧ w'.cell? ⟨gb188, 3, none⟩ = some (.int .i64 a1_3) ∧ w'.cell? ⟨gb187, 0, none⟩ = some (.int .i64 a0_0) ∧ w'.cell? ⟨gb187, 1, none⟩ = some (.int .i64 a0_1) ∧ w'.cell? ⟨gb187, 2, none⟩ = some (.int .i64 a0_2) ∧ w'.cell? ⟨gb187, 3, none⟩ = some (.int .i64 a0_3) ∧ w'.cell? ⟨gb187, 4, none⟩ = some (.int .i64 a0_4) ∧ w'.cell? ⟨gb187, 5, none⟩ = some (.int .i64 a0_5) ∧ w'.cell? ⟨gb187, 6, none⟩ = some (.int .i64 a0_6) ∧ w'.cell? ⟨gb187, 7, none⟩ = some (.slice A0_7 l0_7.length c0_7) ∧ w'.cell? ⟨gb187, 8, none⟩ = some (.slice A0_8 l0_8.length c0_8)) (ds := []) #[false, false, false, false, false, false] zq0 rfl rfl ⟨(blk_cell BK188.out 0).trans rfl, (blk_cell BK188.out 1).trans rfl, (blk_cell BK188.out 2).trans rfl, (blk_cell BK188.out 3).trans rfl, zcs9 BK187.out⟩ (fun hHeld => ?_)
           generalize wr.drew = w83 at BK187 BK188 BK189 BK190 HB hHeld ⊢
           refine zpz (i := 2) (N := some 48) zq0 ?_
           refine ztz (i := 0) (N := some 46) zq0 hHeld ?_
           refine ztz (i := 1) (N := some 47) zq0 hHeld ?_
           refine one_ (i := 3) (N := some 49) #[true, true, true, true, false, false] rfl rfl zq0 (by decide) (fun K hK => ?_)
           refine goes_ Try.func118 zq0 rfl #[.agg #[.int .i64 a0_0, .int .i64 a0_1, .int .i64 a0_2, .int .i64 a0_3, .int .i64 a0_4, .int .i64 a0_5, .int .i64 a0_6, .slice A0_7 l0_7.length c0_7, .slice A0_8 l0_8.length c0_8], .int .i64 x14_3] (by rfl) rfl rfl zq6 ?_
           with_reducible refine (isobathref03_Cell.calls a0_0 a0_1 a0_2 a0_3 a0_4 a0_5 a0_6 _ _ l0_7 _ _ l0_8 x14_3 t191 t192 t193 t194 _ ?side1 ?side2 ?side3 ?side4 A27.out).mono ?_
           (case side1 => repeat (first | exact (Kd.C_below HR0_7.out HB.out) | (with_reducible refine Kd.C_alloc ?_ _) | (with_reducible refine Kd.C_drewN ?_ _) | (with_reducible refine Kd.C_drew ?_)))
           (case side2 => exact HC0_7.out)
           (case side3 => repeat (first | exact (Kd.C_below HR0_8.out HB.out) | (with_reducible refine Kd.C_alloc ?_ _) | (with_reducible refine Kd.C_drewN ?_ _) | (with_reducible refine Kd.C_drew ?_)))
           (case side4 => exact HC0_8.out)
           rintro e w84 ⟨rfl, hb⟩
           refine ⟨_, rfl, ?_⟩
           replace BK187 := zbb BK187 hb
           replace BK188 := zbb BK188 hb
           replace BK189 := zbb BK189 hb
           replace BK190 := zbb BK190 hb
           replace HB := zbs HB hb
           (try clear hb)
           (try clear hb2)
           (try clear hk)
           (try clear hi)
           refine hK.out _ _ ⟨(blk_cell BK188.out 0).trans rfl, (blk_cell BK188.out 1).trans rfl, (blk_cell BK188.out 2).trans rfl, (blk_cell BK188.out 3).trans rfl, zcs9 BK187.out⟩ (fun hHeld => ?_)
           clear hK K
           refine norm_ zq15 ?_
           refine one_ (i := 4) (N := some 50) #[true, true, true, true, true, false] rfl rfl zq0 (by decide) (fun K hK => ?_)
           refine goes_ Try.func117 zq0 rfl #[.agg #[.int .i64 a1_0, .int .i64 a1_1, .int .i64 a1_2, .int .i64 a1_3], .agg #[.int .i64 t191, .int .i64 t192, .int .i64 t193, .int .i64 t194]] (by rfl) rfl rfl zq6 ?_
           with_reducible refine (isobathref03_touches.calls a1_0 a1_1 a1_2 a1_3 t191 t192 t193 t194 false _ A28.out).mono ?_
           rintro e w85 ⟨rfl, hb⟩
           refine ⟨_, rfl, ?_⟩
           replace BK187 := zbb BK187 hb
           replace BK188 := zbb BK188 hb
           replace BK189 := zbb BK189 hb
           replace BK190 := zbb BK190 hb
           replace HB := zbs HB hb
           (try clear hb)
           (try clear hb2)
           (try clear hk)
           (try clear hi)
           refine hK.out _ _ ⟨(blk_cell BK188.out 0).trans rfl, (blk_cell BK188.out 1).trans rfl, (blk_cell BK188.out 2).trans rfl, (blk_cell BK188.out 3).trans rfl, zcs9 BK187.out⟩ (fun hHeld => ?_)
           clear hK K
           refine norm_ zq16 ?_
           refine zpz (i := 5) (N := some 51) zq0 ?_
           refine done_ zq0 ?_
           try go_wp2
           go_roundg k3
           case measure => have := HK1.out; have := HJ10.out; have := HK3.out; omega
           case rel => exact ⟨(x12_3), (wrap64 (x14_3 + 1)), (x191000_3), (x191001_3), (x191002_3), (x191003_3), zq3, zq3, H', ⟨zq18⟩, ⟨zbf⟩, ⟨zbf⟩, ⟨zbf⟩, ⟨zbf⟩, ⟨zbz⟩⟩
         ·rw [if_neg c26] at H
          have c26b0 : decide (x14_3 < (wrap64 (a0_0 * a0_1))) = false := decide_eq_false c26
          clear c26
          have H' := Aside0.mk H
          clear H
          have hnb86 := NB187_188.out
          have hnc86 := NB188_187.out
          have hnb87 := NB187_189.out
          have hnc87 := NB189_187.out
          have hnb88 := NB187_190.out
          have hnc88 := NB190_187.out
          obtain ⟨hcz89_0, hcz89_1, hcz89_2, hcz89_3, hcz89_4, hcz89_5, hcz89_6, hcz89_7, hcz89_8, hfz89_0, hfz89_1, hfz89_2, hfz89_3, hfz89_4, hfz89_5, hfz89_6, hfz89_7, hfz89_8⟩ := zce9 BK187.out
          go_wp2
          go_roundg k3
          case measure => have := HK1.out; have := HJ10.out; have := HK3.out; omega
          case rel => exact ⟨(x12_3), (wrap64 (x13_1 + 1)), (x191000_3), (x191001_3), (x191002_3), (x191003_3), zq3, zq3, H', ⟨zq18⟩, ⟨zbf⟩, ⟨zbf⟩, ⟨zbf⟩, ⟨zbf⟩, ⟨zbz⟩⟩
   ·rw [if_neg c10] at H
    have c10b0 : decide (x13_1 < a0_4) = false := decide_eq_false c10
    clear c10
    simp only [Option.some.injEq, Prod.mk.injEq] at H
    obtain ⟨rfl, rfl, rfl, rfl⟩ := H
    have hnb90 := NB187_188.out
    have hnc90 := NB188_187.out
    have hnb91 := NB187_189.out
    have hnc91 := NB189_187.out
    have hnb92 := NB187_190.out
    have hnc92 := NB190_187.out
    obtain ⟨hcz93_0, hcz93_1, hcz93_2, hcz93_3, hcz93_4, hcz93_5, hcz93_6, hcz93_7, hcz93_8, hfz93_0, hfz93_1, hfz93_2, hfz93_3, hfz93_4, hfz93_5, hfz93_6, hfz93_7, hfz93_8⟩ := zce9 BK187.out
    have hnb94 := NB190_188.out
    have hnc94 := NB188_190.out
    have hnb95 := NB190_189.out
    have hnc95 := NB189_190.out
    obtain ⟨hcz96_0, hcz96_1, hcz96_2, hcz96_3, hfz96_0, hfz96_1, hfz96_2, hfz96_3⟩ := zce4 BK190.out
    have hnb97 := NB189_188.out
    have hnc97 := NB188_189.out
    obtain ⟨hcz98_0, hcz98_1, hcz98_2, hcz98_3, hfz98_0, hfz98_1, hfz98_2, hfz98_3⟩ := zce4 BK189.out
    go_wp2
    refine bodyPost_ret (results_cell_row rfl _ _ gb189 33 #[.int .i64 x191000_1, .int .i64 x191001_1, .int .i64 x191002_1, .int .i64 x191003_1] (0, 0) _ rfl (by (with_reducible repeat (first | refine blk_drewN ?_ _ | refine blk_drew ?_ | refine blk_alloc ?_ _)); refine blk_put (cs := #[.int .i64 x191000_1, .int .i64 x191001_1, .int .i64 x191002_1, .int .i64 0]) ?_ 3 _ rfl; (with_reducible repeat (first | refine blk_drewN ?_ _ | refine blk_drew ?_ | refine blk_alloc ?_ _)); refine blk_put (cs := #[.int .i64 x191000_1, .int .i64 x191001_1, .int .i64 0, .int .i64 0]) ?_ 2 _ rfl; (with_reducible repeat (first | refine blk_drewN ?_ _ | refine blk_drew ?_ | refine blk_alloc ?_ _)); refine blk_put (cs := #[.int .i64 x191000_1, .int .i64 0, .int .i64 0, .int .i64 0]) ?_ 1 _ rfl; (with_reducible repeat (first | refine blk_drewN ?_ _ | refine blk_drew ?_ | refine blk_alloc ?_ _)); refine blk_put (cs := #[.int .i64 0, .int .i64 0, .int .i64 0, .int .i64 0]) ?_ 0 _ rfl; (with_reducible repeat (first | refine blk_drewN ?_ _ | refine blk_drew ?_ | refine blk_alloc ?_ _)); exact BK189.out) Try.underlying33 rfl zq0) rfl ?_
    exact ⟨zq2, zbz⟩

end Go.Proofs.Ythglkoddmpicdaa.Pr
end
