/- Part 12 of the proof of ClockOrder: what the functions compute. No condition. -/
import Derived.Test.YtcjdhajdoikojaaCoClockOrder3
import Derived.Test.YtcjdhajdoikojaaCoClockOrder10
import Derived.Test.YtcjdhajdoikojaaCoClockOrder11
set_option linter.unusedVariables false
set_option linter.unusedSimpArgs false
section
namespace Go.Proofs.Ytcjdhajdoikojaa.Pr
open Go.RowKit Go.Proofs.YtcjdhajdoikojaaW.PrintWords Go.Proofs.YtcjdhajdoikojaaW.PrintLast Go.Proofs.YtcjdhajdoikojaaW.PrintMore
attribute [local go_sem] max2_int min2_int max_two min_two
set_option linter.unusedVariables false
set_option linter.unusedSimpArgs false

/-! ### clock_Ranks: function 47 -/
mutual
def clock_Ranks.l0 : Nat → List (S35) → List (S81) → Int → Int → Option ((List (S81)) × Int)
 | 0, _, _, _, _ => none
 | k + 1, x0, x5, x20, x21 => if x21 < x20 then (if 0 ≤ x21 then (if x21 < (x5.length : Int) then (clock_Ranks.l0 k x0 (x5.set (x21 : Int).toNat (⟨(rd_T81 x5 x21).f0, wrap64 ((x0.length : Int) - 1)⟩ : S81)) x20 (wrap64 (x21 + 1))) else (none)) else (none)) else (clock_Ranks.l1 k x0 x5 x0 (x0.length : Int) 0)
def clock_Ranks.l1 : Nat → List (S35) → List (S81) → List (S35) → Int → Int → Option ((List (S81)) × Int)
 | 0, _, _, _, _, _ => none
 | k + 1, x0, x5, x32, x33, x34 => if x34 < x33 then (if 0 ≤ x34 then (if x34 < (x32.length : Int) then (clock_Ranks.l2 k x0 x5 x34 x32 x33 x34 x0 (x0.length : Int) 0 ((rd_T35 x32 x34).f0) ((rd_T35 x32 x34).f1)) else (none)) else (none)) else (some (x5, 0))
def clock_Ranks.l2 : Nat → List (S35) → List (S81) → Int → List (S35) → Int → Int → List (S35) → Int → Int → Int → Int → Option ((List (S81)) × Int)
 | 0, _, _, _, _, _, _, _, _, _, _, _ => none
 | k + 1, x0, x5, x7, x32, x33, x34, x39, x40, x41, x569000, x569001 => if x41 < x40 then (if 0 ≤ x41 then (if x41 < (x39.length : Int) then ((clock_before.f x569000 x569001 ((rd_T35 x39 x41).f0) ((rd_T35 x39 x41).f1)).bind fun t571 => (if t571 = 2 then (if 0 ≤ x7 then (if x7 < (x5.length : Int) then ((some (x5.set (x7 : Int).toNat (⟨(rd_T81 x5 x7).f0, wrap64 (((rd_T81 x5 x7).f1) - 1)⟩ : S81) : List (S81))).bind fun y573 => (if x41 < (x5.length : Int) then (clock_Ranks.l2 k x0 (y573.set (x41 : Int).toNat (⟨wrap64 (((rd_T81 y573 x41).f0) + 1), (rd_T81 y573 x41).f1⟩ : S81)) x7 x32 x33 x34 x39 x40 (wrap64 (x41 + 1)) x569000 x569001) else (none))) else (none)) else (none)) else (clock_Ranks.l2 k x0 x5 x7 x32 x33 x34 x39 x40 (wrap64 (x41 + 1)) x569000 x569001))) else (none)) else (none)) else (clock_Ranks.l1 k x0 x5 x32 x33 (wrap64 (x34 + 1)))
end
def clock_Ranks.f (k : Nat) (l0 : List (S35)) : Option ((List (S81)) × Int) := (clock_checkMany.f l0).bind fun t562 => (if t562 = 0 then (if 0 ≤ (l0.length : Int) then (if ((l0.length : Int) : Int).toNat ≤ 17592186044416 then (clock_Ranks.l0 k l0 (List.replicate ((l0.length : Int) : Int).toNat z81) (l0.length : Int) 0) else (none)) else (none)) else (some (([] : List (S81)), t562)))
def clock_Ranks.T17 : Bool × List (List Nat × List Nat) := (true, [([], []), ([], []), ([0, 1], [0, 1]), ([2], [2]), ([3], [3]), ([4], [4]), ([0, 1], [0, 1]), ([6, 0, 1, 2, 3, 4, 5], [6]), ([7, 5, 0, 1, 2, 3, 4, 5], [5, 7])])
def clock_Ranks.B17 : List Nat := [0, 0, 3, 7, 15, 31, 3, 127, 255]
theorem clock_Ranks.tab17 : rtab .any (opsOf Try.f47 17) = clock_Ranks.T17 := by kernel_rfl
theorem clock_Ranks.bits17 : waitsOk clock_Ranks.T17.2 clock_Ranks.B17 = true := by kernel_rfl
def clock_Ranks.T18 : Bool × List (List Nat × List Nat) := (true, [([], []), ([], []), ([0, 1], [0, 1]), ([2], [2]), ([3], [3]), ([4], [4]), ([0, 1], [0, 1]), ([6, 0, 1, 2, 3, 4, 5], [6]), ([7, 5, 0, 1, 2, 3, 4, 5], [5, 7])])
def clock_Ranks.B18 : List Nat := [0, 0, 3, 7, 15, 31, 3, 127, 255]
theorem clock_Ranks.tab18 : rtab .any (opsOf Try.f47 18) = clock_Ranks.T18 := by kernel_rfl
theorem clock_Ranks.bits18 : waitsOk clock_Ranks.T18.2 clock_Ranks.B18 = true := by kernel_rfl
set_option maxHeartbeats 80000000 in
set_option maxRecDepth 100000 in
theorem clock_Ranks.calls (k : Nat) (A0 : Option Addr) (c0 : Nat) (l0 : List (S35)) (r1 : List (S81)) (r2 : Int) (w : World) (hr0 : Kd.C k35 w A0 l0.length l0) (hc0 : l0.length ≤ c0) (h : clock_Ranks.f k l0 = some (r1, r2)) :
  Calls Try.prog 47 #[.slice A0 l0.length c0] w fun e w' => ∃ v0_ : Value, e = .returned (.tuple #[v0_, .int .i64 r2]) ∧ Kd.R k81 81 w' w.heap.size (fun _ => True) v0_ r1 ∧ Below w.heap.size w w' := by
 have hu35 := Try.underlying35
 have HR0 := Aside0.mk hr0
 have HC0 := Aside0.mk hc0
 clear hr0 hc0
 have HB := Aside0.mk (Below.refl w.heap.size w)
 have H : ((clock_checkMany.f l0).bind fun t562 => (if t562 = 0 then (if 0 ≤ (l0.length : Int) then (if ((l0.length : Int) : Int).toNat ≤ 17592186044416 then (clock_Ranks.l0 k l0 (List.replicate ((l0.length : Int) : Int).toNat z81) (l0.length : Int) 0) else (none)) else (none)) else (some (([] : List (S81)), t562)))) = some (r1, r2) := h
 clear h
 replace H := Option.bind_eq_some_iff.mp H
 obtain ⟨t562, A20, H⟩ := H
 replace H : (if t562 = 0 then (if 0 ≤ (l0.length : Int) then (if ((l0.length : Int) : Int).toNat ≤ 17592186044416 then (clock_Ranks.l0 k l0 (List.replicate ((l0.length : Int) : Int).toNat z81) (l0.length : Int) 0) else (none)) else (none)) else (some (([] : List (S81)), t562))) = some (r1, r2) := H
 have A2 := Aside0.mk A20
 clear A20
 by_cases c3 : t562 = 0
 ·rw [if_pos c3] at H
  have c3b0 : (t562 == 0) = true := beq_iff_eq.mpr c3
  have c3b1 : (t562 != 0) = false := bne_eq_false_iff_eq.mpr c3
  clear c3
  by_cases c4 : 0 ≤ (l0.length : Int)
  ·rw [if_pos c4] at H
   have c4b0 := eq_true c4
   have c4b1 : decide (0 ≤ (l0.length : Int)) = true := decide_eq_true c4
   clear c4
   by_cases c5 : ((l0.length : Int) : Int).toNat ≤ 17592186044416
   ·rw [if_pos c5] at H
    have c5b0 := eq_true c5
    have c5b1 : decide (((l0.length : Int) : Int).toNat ≤ 17592186044416) = true := decide_eq_true c5
    clear c5
    obtain ⟨y563, hy563⟩ : ∃ y_ : List (S81), y_ = (List.replicate ((l0.length : Int) : Int).toNat z81) := ⟨_, rfl⟩
    replace H : (clock_Ranks.l0 k l0 y563 (l0.length : Int) 0) = some (r1, r2) := by first | (rw [hy563]; with_reducible exact H) | (have H2_ := (Option.bind_some _ _).symm.trans H; rw [hy563]; with_reducible exact H2_) | (have H2_ := (Option.bind_some _ _).symm.trans H; with_reducible exact H2_) | with_reducible exact H | (rw [hy563]; exact H) | exact H
    have Ny563 := Aside0.mk hy563
    clear hy563
    have H' := Aside0.mk H
    clear H
    go_enter Try.func47, Try.ntmps47
    go_wp2_with (first | ((with_reducible refine gate_callee (f := 81) rfl ?_); refine goesL_ (some 12) rfl rfl Try.func81 zq1 rfl #[.slice A0 l0.length c0] rfl zq26 ?_; (with_reducible refine (clock_checkMany.calls _ _ l0 t562 _ ?side1 ?side2 A2.out).mono ?_); (case side1 => repeat (first | exact HR0.out | (with_reducible refine Kd.C_alloc ?_ _) | (with_reducible refine Kd.C_drewN ?_ _) | (with_reducible refine Kd.C_drew ?_))); (case side2 => exact HC0.out); rintro e w6 ⟨rfl, hb⟩; refine ⟨_, rfl, ?_⟩; replace HB := zbs HB hb; (try clear hb); (try clear hb2); (try clear hk); (try clear hi)) | ((with_reducible refine gate_dst (N := 18) rfl ?_); refine Kd.R_make k81 _ 81 rfl (N := 18) rfl 77 _ _ rfl (l0.length : Int) rfl rfl Try.underlying77 (.agg #[(.int .i64 0), (.int .i64 0)]) 16 info81 rfl (by decide) (by omega) z81 (ok := fun _ => True) (okp := fun _ => True) (k81_mkM _ _ _ z81 ) (fun _ hk => hk) trivial (of_decide_eq_true zq25) (Nat.le_trans (Nat.mul_le_mul_right _ (of_decide_eq_true zq25 : (l0.length : Int).toNat ≤ 17592186044416)) (by omega)) (Below.refl _ _) (Nat.le_refl _) ?_; intro v564 w7 ho8 hb hg_ hnew_; clear hg_ hnew_; (first | rw [← Ny563.out] at ho8 | (simp only [Int.reduceToNat] at ho8; rw [← Ny563.out] at ho8)); have HO565 := Aside0.mk (Kd.R_lower ho8 (below_size zbz)); replace HB := zbs HB hb; clear hb ho8))
    go_loopg [21] k (fun kq v21 w' => ∃ (x5_1 : List (S81)) (x21_1 : Int), v21 = .int .i64 x21_1 ∧ Aside0 (clock_Ranks.l0 kq l0 x5_1 (l0.length : Int) x21_1 = some (r1, r2)) ∧ Aside0 (kq ≤ k) ∧ Aside0 (Kd.R k81 81 w' w.heap.size (fun _ => True) v564 x5_1) ∧ Aside0 (Below w.heap.size w w'))
    case atStart => exact ⟨(y563), (0), zq23, H', ⟨Nat.le_refl _⟩, ⟨by (with_reducible repeat (first | apply Kd.R_alloc | apply Kd.R_drewN | apply Kd.R_drew)); exact HO565.out⟩, ⟨zbz⟩⟩
    case round =>
     clear H'
     try clear p2
     try clear c3
     try clear c3b0
     try clear c3b1
     try clear c4
     try clear c4b0
     try clear c4b1
     try clear c5
     try clear c5b0
     try clear c5b1
     try clear c8
     obtain ⟨x5_1, x21_1, rfl, HA, HK1, HO_5, HB⟩ := hrel
     cases gk with
     | zero => exact absurd HA.out (by simp [clock_Ranks.l0])
     | succ k1 =>
      have H := HA.out
      clear HA
      simp only [clock_Ranks.l0] at H
      by_cases c9 : x21_1 < (l0.length : Int)
      ·rw [if_pos c9] at H
       have c9b0 : decide (x21_1 < (l0.length : Int)) = true := decide_eq_true c9
       clear c9
       by_cases c10 : 0 ≤ x21_1
       ·rw [if_pos c10] at H
        have c10b0 : decide (0 ≤ x21_1) = true := decide_eq_true c10
        clear c10
        by_cases c11 : x21_1 < (x5_1.length : Int)
        ·rw [if_pos c11] at H
         have c11b0 : decide (x21_1 < (x5_1.length : Int)) = true := decide_eq_true c11
         clear c11
         obtain ⟨y566, hy566⟩ : ∃ y_ : List (S81), y_ = (x5_1.set (x21_1 : Int).toNat (⟨(rd_T81 x5_1 x21_1).f0, wrap64 ((l0.length : Int) - 1)⟩ : S81)) := ⟨_, rfl⟩
         replace H : (clock_Ranks.l0 k1 l0 y566 (l0.length : Int) (wrap64 (x21_1 + 1))) = some (r1, r2) := by first | (rw [hy566]; with_reducible exact H) | (have H2_ := (Option.bind_some _ _).symm.trans H; rw [hy566]; with_reducible exact H2_) | (have H2_ := (Option.bind_some _ _).symm.trans H; with_reducible exact H2_) | with_reducible exact H | (rw [hy566]; exact H) | exact H
         have Ny566 := Aside0.mk hy566
         clear hy566
         have H' := Aside0.mk H
         clear H
         have p12 : 0 ≤ (x21_1 : Int) := of_decide_eq_true zq25
         have q12 : (x21_1 : Int) < ((x5_1.length : Int) : Int) := of_decide_eq_true zq25
         obtain ⟨go12, co12, eo12, gb12, gl12, cl12, HG12⟩ := Kd.R_form HO_5.out (by omega)
         (first | cases eo12 | (injection eo12 with ea_ en_ ec_; (first | subst ea_ | (injection ea_ with ea_; subst ea_)); subst ec_; clear en_))
         have GB12 := Aside0.mk gb12
         have GG12 := Aside0.mk HG12
         clear gb12 gl12 HG12
         obtain ⟨ce12, hcl12, hM12, hcc12, hfr12⟩ := Kd.R_elem HO_5.out z81 (x21_1 : Int) p12 q12
         obtain rfl := k81_openM hM12
         have hx12_0 : wr.cell? ⟨go12, (x21_1 : Int).toNat * 2, none⟩ = some (.int .i64 ((rd_T81 x5_1 x21_1).f0)) := hcc12 0 _ rfl
         have hx12_1 : wr.cell? ⟨go12, (x21_1 : Int).toNat * 2 + 1, none⟩ = some (.int .i64 ((rd_T81 x5_1 x21_1).f1)) := hcc12 1 _ rfl
         have hf12_0 : wr.frozen? ⟨go12, (x21_1 : Int).toNat * 2, none⟩ = false := hfr12 0
         have hf12_1 : wr.frozen? ⟨go12, (x21_1 : Int).toNat * 2 + 1, none⟩ = false := hfr12 1
         clear hcl12 hcc12 hfr12 hM12
         replace p12 := eq_true p12
         replace q12 := eq_true q12
         have HX13 := Aside0.mk (show Kd.R k81 81 wr w.heap.size (fun _ => True) (.slice (some ⟨go12, 0, none⟩) x5_1.length co12) x5_1 from zq39)
         obtain ⟨ce13, hcl13, hM13, hcc13, hfr13⟩ := Kd.R_elem HX13.out z81 (x21_1 : Int) (of_decide_eq_true zq25) (by have h_ : (x21_1 : Int) < ((x5_1.length : Int) : Int) := of_decide_eq_true zq25; first | exact h_ | (have e_ := (Kd.R_reads' HO_5.out).1; omega) | simpa using h_)
         obtain rfl := k81_openM hM13
         have HP13 := Kd.R_seg HX13.out (x21_1 : Int) (of_decide_eq_true zq25) (by have h_ : (x21_1 : Int) < ((x5_1.length : Int) : Int) := of_decide_eq_true zq25; first | exact h_ | (have e_ := (Kd.R_reads' HO_5.out).1; omega) | simpa using h_) (seg := [.int .i64 (wrap64 ((l0.length : Int) - 1))]) (j := 1) hcl13 hcc13 (show 2 ≤ 2 from by decide) (x' := (⟨(rd_T81 x5_1 x21_1).f0, wrap64 ((l0.length : Int) - 1)⟩ : S81)) (k81_mkM _ _ _ (⟨(rd_T81 x5_1 x21_1).f0, wrap64 ((l0.length : Int) - 1)⟩ : S81) ) (fun _ hk => hk)
         have hx13_1 := hcc13 1 _ rfl
         (try simp only [show (k81).sz = 2 from rfl, Nat.mul_one, Nat.add_zero] at hx13_1)
         have hf13_1 := hfr13 1
         (try simp only [show (k81).sz = 2 from rfl, Nat.mul_one, Nat.add_zero] at hf13_1)
         clear hcl13 hcc13 hfr13 hM13
         go_wp2_with (first | ((with_reducible refine gate_store (t := 3) (p := 30) rfl ?_); refine store_event (t := 3) (p := 30) (v := ?vo_w14) (w1 := (wr.setCell ⟨go12, (x21_1 : Int).toNat * 2 + 1, none⟩ (.int .i64 (wrap64 ((l0.length : Int) - 1))))) ?hg ?ho ?hn ?hr ?_; (case ho => rfl); (case hg => rfl); (case hn => rfl); (case hr => first | (go_simp; done) | (go_simp; rfl)); intro w14 hw; have hg : wr.grownBy w14 (some go12) := (by rw [hw]; exact HP13.2); have hp_ : Kd.R k81 81 w14 w.heap.size (fun _ => True) (.slice (some ⟨go12, 0, none⟩) x5_1.length co12) y566 := (by rw [hw, Ny566.out]; exact HP13.1); clear HP13; have n0_ := Aside0.mk (hp_); have n1_ := Aside0.mk ((by rw [hw]; exact below_set (HB.out) GB12.out : Below w.heap.size w w14)); clear HO_5; clear HB; have HO_5 := n0_; have HB := n1_; clear n0_ n1_; clear hg hw hp_))
         go_roundg k1
         case measure => have := HK1.out; omega
         case rel => exact ⟨(y566), (wrap64 (x21_1 + 1)), zq23, H', ⟨by have := HK1.out; omega⟩, ⟨zq39⟩, ⟨zbz⟩⟩
        ·rw [if_neg c11] at H
         exact absurd H (by simp)
       ·rw [if_neg c10] at H
        exact absurd H (by simp)
      ·rw [if_neg c9] at H
       have c9b0 : decide (x21_1 < (l0.length : Int)) = false := decide_eq_false c9
       clear c9
       have H' := Aside0.mk H
       clear H
       go_wp2
       go_loopg [34] k1 (fun kq v34 w' => ∃ (x5_2 : List (S81)) (x34_2 : Int), v34 = .int .i64 x34_2 ∧ Aside0 (clock_Ranks.l1 kq l0 x5_2 l0 (l0.length : Int) x34_2 = some (r1, r2)) ∧ Aside0 (kq ≤ k1) ∧ Aside0 (Kd.R k81 81 w' w.heap.size (fun _ => True) v564 x5_2) ∧ Aside0 (Below w.heap.size w w'))
       case atStart => exact ⟨(x5_1), (0), zq23, H', ⟨Nat.le_refl _⟩, ⟨zq39⟩, ⟨zbz⟩⟩
       case round =>
        clear H'
        try clear c1
        try clear p1
        try clear q1
        try clear hx1
        try clear hf1
        try clear p2
        try clear c3
        try clear c3b0
        try clear c3b1
        try clear c4
        try clear c4b0
        try clear c4b1
        try clear c5
        try clear c5b0
        try clear c5b1
        try clear p6
        try clear c8
        try clear c9
        try clear c9b0
        try clear c10
        try clear c10b0
        try clear c11
        try clear c11b0
        try clear c12
        try clear p12
        try clear q12
        try clear hx12
        try clear hf12
        try clear c13
        try clear hx13
        try clear hf13
        try clear hx12_0 hx12_1
        try clear hx13_1
        try clear p12
        try clear p2
        try clear q12
        obtain ⟨x5_2, x34_2, rfl, HA, HK2, HO_5, HB⟩ := hrel
        cases gk with
        | zero => exact absurd HA.out (by simp [clock_Ranks.l1])
        | succ k2 =>
         have H := HA.out
         clear HA
         simp only [clock_Ranks.l1] at H
         by_cases c15 : x34_2 < (l0.length : Int)
         ·rw [if_pos c15] at H
          have c15b0 : decide (x34_2 < (l0.length : Int)) = true := decide_eq_true c15
          clear c15
          by_cases c16 : 0 ≤ x34_2
          ·rw [if_pos c16] at H
           have c16b0 : decide (0 ≤ x34_2) = true := decide_eq_true c16
           clear c16
           by_cases c17 : x34_2 < (l0.length : Int)
           ·rw [if_pos c17] at H
            have c17b0 : decide (x34_2 < (l0.length : Int)) = true := decide_eq_true c17
            clear c17
            have H' := Aside0.mk H
            clear H
            have p567 : 0 ≤ (x34_2 : Int) := of_decide_eq_true zq25
            have q567 : x34_2 < (l0.length : Int) := of_decide_eq_true zq25
            obtain ⟨ad567, e567, hx567_0, hx567_1⟩ := at_T35 HR0.out x34_2 p567 q567
            cases e567
            replace hx567_0 := (HB.out.cell (World.block_lt_of_cell? w _ hx567_0)).trans hx567_0
            replace hx567_1 := (HB.out.cell (World.block_lt_of_cell? w _ hx567_1)).trans hx567_1
            replace p567 := eq_true p567
            replace q567 := eq_true q567
            go_wp2_with (first | ((with_reducible refine gate_dst (N := 8) rfl ?_); refine box_event (by rfl) (N := 8) (by rfl) (cs := #[.int .i64 0, .int .i64 0]) (t := 35) zq2 ?_; intro gb568 hg w18 hbox hb; have BK568 := Aside0.mk (hbox); have GW568 := zgs HB hg; have GE568 := zgs HB hg; replace HO_5 := zrb HO_5 hb; replace HB := zbs HB hb; clear hb hbox hg; obtain ⟨hcz19_0, hcz19_1, hfz19_0, hfz19_1⟩ := zce2 BK568.out))
            go_loopg [41] k2 (fun kq v41 w' => ∃ (x5_3 : List (S81)) (x41_3 : Int), v41 = .int .i64 x41_3 ∧ Aside0 (clock_Ranks.l2 kq l0 x5_3 x34_2 l0 (l0.length : Int) x34_2 l0 (l0.length : Int) x41_3 ((rd_T35 l0 x34_2).f0) ((rd_T35 l0 x34_2).f1) = some (r1, r2)) ∧ Aside0 (kq ≤ k2) ∧ Aside0 (Kd.R k81 81 w' w.heap.size (fun _ => True) v564 x5_3) ∧ Aside0 (w'.heap[gb568]? = some (.cells #[.int .i64 ((rd_T35 l0 x34_2).f0), .int .i64 ((rd_T35 l0 x34_2).f1)] 35 (0, 0))) ∧ Aside0 (Below w.heap.size w w'))
            case atStart => exact ⟨(x5_2), (0), zq23, H', ⟨Nat.le_refl _⟩, ⟨by (with_reducible repeat (first | apply Kd.R_alloc | apply Kd.R_drewN | apply Kd.R_drew)); exact Kd.R_mono (Kd.R_far (p := ⟨gb568, 1, none⟩) (Kd.R_far (p := ⟨gb568, 0, none⟩) (Kd.R_types HO_5.out BK568.out (by decide)) (fun _ hk => hk.2) (.int .i64 ((rd_T35 l0 x34_2).f0))) (fun _ hk => hk.2) (.int .i64 ((rd_T35 l0 x34_2).f1))) (fun _ hk => trivial)⟩, ⟨by (with_reducible repeat (first | refine blk_drewN ?_ _ | refine blk_drew ?_ | refine blk_alloc ?_ _)); refine blk_put (cs := #[.int .i64 ((rd_T35 l0 x34_2).f0), .int .i64 0]) ?_ 1 _ rfl; (with_reducible repeat (first | refine blk_drewN ?_ _ | refine blk_drew ?_ | refine blk_alloc ?_ _)); refine blk_put (cs := #[.int .i64 0, .int .i64 0]) ?_ 0 _ rfl; (with_reducible repeat (first | refine blk_drewN ?_ _ | refine blk_drew ?_ | refine blk_alloc ?_ _)); exact BK568.out⟩, ⟨zbz⟩⟩
            case round =>
             clear H'
             try clear c1
             try clear p1
             try clear q1
             try clear hx1
             try clear hf1
             try clear p2
             try clear c3
             try clear c3b0
             try clear c3b1
             try clear c4
             try clear c4b0
             try clear c4b1
             try clear c5
             try clear c5b0
             try clear c5b1
             try clear p5
             try clear q5
             try clear hx5
             try clear p6
             try clear c8
             try clear c9
             try clear c9b0
             try clear c10
             try clear c10b0
             try clear c11
             try clear c11b0
             try clear c12
             try clear p12
             try clear q12
             try clear hx12
             try clear hf12
             try clear c13
             try clear hx13
             try clear hf13
             try clear c15
             try clear c15b0
             try clear c16
             try clear c16b0
             try clear c17
             try clear c17b0
             try clear hcz19_0 hcz19_1 hfz19_0 hfz19_1
             try clear hx12_0 hx12_1
             try clear hx13_1
             try clear hx567_0 hx567_1
             try clear p1
             try clear p12
             try clear p2
             try clear p567
             try clear p6
             try clear q1
             try clear q12
             try clear q567
             obtain ⟨x5_3, x41_3, rfl, HA, HK3, HO_5, BK568, HB⟩ := hrel
             cases gk with
             | zero => exact absurd HA.out (by simp [clock_Ranks.l2])
             | succ k3 =>
              have H := HA.out
              clear HA
              simp only [clock_Ranks.l2] at H
              by_cases c20 : x41_3 < (l0.length : Int)
              ·rw [if_pos c20] at H
               have c20b0 : decide (x41_3 < (l0.length : Int)) = true := decide_eq_true c20
               clear c20
               by_cases c21 : 0 ≤ x41_3
               ·rw [if_pos c21] at H
                have c21b0 : decide (0 ≤ x41_3) = true := decide_eq_true c21
                clear c21
                by_cases c22 : x41_3 < (l0.length : Int)
                ·rw [if_pos c22] at H
                 have c22b0 : decide (x41_3 < (l0.length : Int)) = true := decide_eq_true c22
                 clear c22
                 replace H := Option.bind_eq_some_iff.mp H
                 obtain ⟨t571, A230, H⟩ := H
                 replace H : (if t571 = 2 then (if 0 ≤ x34_2 then (if x34_2 < (x5_3.length : Int) then ((some (x5_3.set (x34_2 : Int).toNat (⟨(rd_T81 x5_3 x34_2).f0, wrap64 (((rd_T81 x5_3 x34_2).f1) - 1)⟩ : S81) : List (S81))).bind fun y573 => (if x41_3 < (x5_3.length : Int) then (clock_Ranks.l2 k3 l0 (y573.set (x41_3 : Int).toNat (⟨wrap64 (((rd_T81 y573 x41_3).f0) + 1), (rd_T81 y573 x41_3).f1⟩ : S81)) x34_2 l0 (l0.length : Int) x34_2 l0 (l0.length : Int) (wrap64 (x41_3 + 1)) ((rd_T35 l0 x34_2).f0) ((rd_T35 l0 x34_2).f1)) else (none))) else (none)) else (none)) else (clock_Ranks.l2 k3 l0 x5_3 x34_2 l0 (l0.length : Int) x34_2 l0 (l0.length : Int) (wrap64 (x41_3 + 1)) ((rd_T35 l0 x34_2).f0) ((rd_T35 l0 x34_2).f1))) = some (r1, r2) := H
                 have A23 := Aside0.mk A230
                 clear A230
                 by_cases c24 : t571 = 2
                 ·rw [if_pos c24] at H
                  have c24b0 : (t571 == 2) = true := beq_iff_eq.mpr c24
                  have c24b1 : (t571 != 2) = false := bne_eq_false_iff_eq.mpr c24
                  clear c24
                  by_cases c25 : 0 ≤ x34_2
                  ·rw [if_pos c25] at H
                   have c25b0 : decide (0 ≤ x34_2) = true := decide_eq_true c25
                   clear c25
                   by_cases c26 : x34_2 < (x5_3.length : Int)
                   ·rw [if_pos c26] at H
                    have c26b0 : decide (x34_2 < (x5_3.length : Int)) = true := decide_eq_true c26
                    clear c26
                    obtain ⟨y573, hy573⟩ : ∃ y_ : List (S81), y_ = (x5_3.set (x34_2 : Int).toNat (⟨(rd_T81 x5_3 x34_2).f0, wrap64 (((rd_T81 x5_3 x34_2).f1) - 1)⟩ : S81)) := ⟨_, rfl⟩
                    replace H : (if x41_3 < (x5_3.length : Int) then (clock_Ranks.l2 k3 l0 (y573.set (x41_3 : Int).toNat (⟨wrap64 (((rd_T81 y573 x41_3).f0) + 1), (rd_T81 y573 x41_3).f1⟩ : S81)) x34_2 l0 (l0.length : Int) x34_2 l0 (l0.length : Int) (wrap64 (x41_3 + 1)) ((rd_T35 l0 x34_2).f0) ((rd_T35 l0 x34_2).f1)) else (none)) = some (r1, r2) := by first | (rw [hy573]; with_reducible exact H) | (have H2_ := (Option.bind_some _ _).symm.trans H; rw [hy573]; with_reducible exact H2_) | (have H2_ := (Option.bind_some _ _).symm.trans H; with_reducible exact H2_) | with_reducible exact H | (rw [hy573]; exact H) | exact H
                    have Ny573 := Aside0.mk hy573
                    clear hy573
                    by_cases c28 : x41_3 < (x5_3.length : Int)
                    ·rw [if_pos c28] at H
                     have c28b0 : decide (x41_3 < (x5_3.length : Int)) = true := decide_eq_true c28
                     clear c28
                     obtain ⟨y575, hy575⟩ : ∃ y_ : List (S81), y_ = (y573.set (x41_3 : Int).toNat (⟨wrap64 (((rd_T81 y573 x41_3).f0) + 1), (rd_T81 y573 x41_3).f1⟩ : S81)) := ⟨_, rfl⟩
                     replace H : (clock_Ranks.l2 k3 l0 y575 x34_2 l0 (l0.length : Int) x34_2 l0 (l0.length : Int) (wrap64 (x41_3 + 1)) ((rd_T35 l0 x34_2).f0) ((rd_T35 l0 x34_2).f1)) = some (r1, r2) := by first | (rw [hy575]; with_reducible exact H) | (have H2_ := (Option.bind_some _ _).symm.trans H; rw [hy575]; with_reducible exact H2_) | (have H2_ := (Option.bind_some _ _).symm.trans H; with_reducible exact H2_) | with_reducible exact H | (rw [hy575]; exact H) | exact H
                     have Ny575 := Aside0.mk hy575
                     clear hy575
                     have H' := Aside0.mk H
                     clear H
                     have p569 : 0 ≤ (x41_3 : Int) := of_decide_eq_true zq25
                     have q569 : x41_3 < (l0.length : Int) := of_decide_eq_true zq25
                     obtain ⟨ad569, e569, hx569_0, hx569_1⟩ := at_T35 HR0.out x41_3 p569 q569
                     obtain rfl : ad567 = ad569 := (by injection e569)
                     replace hx569_0 := (HB.out.cell (World.block_lt_of_cell? w _ hx569_0)).trans hx569_0
                     replace hx569_1 := (HB.out.cell (World.block_lt_of_cell? w _ hx569_1)).trans hx569_1
                     replace p569 := eq_true p569
                     replace q569 := eq_true q569
                     try go_wp2_with (first | ((with_reducible refine gate_dst (N := 10) rfl ?_); refine box_event (by rfl) (N := 10) (by rfl) (cs := #[.int .i64 0, .int .i64 0]) (t := 35) zq2 ?_; intro gb570 hg w30 hbox hb; have BK570 := Aside0.mk (hbox); have GW570 := zgs HB hg; have GE570 := zgs HB hg; have NB568_570 := znp BK568 hg; have NB570_568 := znq BK568 hg; replace HO_5 := zrb HO_5 hb; replace BK568 := zbb BK568 hb; replace HB := zbs HB hb; clear hb hbox hg; have hnb31 := NB570_568.out; have hnc31 := NB568_570.out; obtain ⟨hcz32_0, hcz32_1, hfz32_0, hfz32_1⟩ := zce2 BK570.out; obtain ⟨hcz33_0, hcz33_1, hfz33_0, hfz33_1⟩ := zce2 BK568.out) | ((with_reducible refine gate_callee (f := 79) rfl ?_); refine goesL_ (some 48) rfl rfl Try.func79 zq1 rfl #[.agg #[.int .i64 ((rd_T35 l0 x34_2).f0), .int .i64 ((rd_T35 l0 x34_2).f1)], .agg #[.int .i64 ((rd_T35 l0 x41_3).f0), .int .i64 ((rd_T35 l0 x41_3).f1)]] rfl zq26 ?_; (with_reducible refine (clock_before.calls ((rd_T35 l0 x34_2).f0) ((rd_T35 l0 x34_2).f1) ((rd_T35 l0 x41_3).f0) ((rd_T35 l0 x41_3).f1) t571 _ A23.out).mono ?_); rintro e w34 ⟨rfl, hb⟩; refine ⟨_, rfl, ?_⟩; have n0_ := Aside0.mk (Kd.R_below zq40 hb); have n1_ := zbb BK568 hb; have n2_ := Aside0.mk (blk_below (g := gb570) (o := .cells #[.int .i64 ((rd_T35 l0 x41_3).f0), .int .i64 ((rd_T35 l0 x41_3).f1)] 35 (0, 0)) (by (with_reducible repeat (first | refine blk_drewN ?_ _ | refine blk_drew ?_ | refine blk_alloc ?_ _)); refine blk_put (cs := #[.int .i64 ((rd_T35 l0 x41_3).f0), .int .i64 0]) ?_ 1 _ rfl; (with_reducible repeat (first | refine blk_drewN ?_ _ | refine blk_drew ?_ | refine blk_alloc ?_ _)); refine blk_put (cs := #[.int .i64 0, .int .i64 0]) ?_ 0 _ rfl; (with_reducible repeat (first | refine blk_drewN ?_ _ | refine blk_drew ?_ | refine blk_alloc ?_ _)); exact BK570.out) hb); have n3_ := zbs HB hb; clear HO_5; clear BK568; clear BK570; clear HB; have HO_5 := n0_; have BK568 := n1_; have BK570 := n2_; have HB := n3_; clear n0_ n1_ n2_ n3_; (try clear hb); (try clear hb2); (try clear hk); (try clear hi)))
                     replace HO_5 := Aside0.mk (Kd.R_drew HO_5.out)
                     replace BK568 := Aside0.mk (blk_drew BK568.out)
                     replace BK570 := Aside0.mk (blk_drew BK570.out)
                     replace HB := Aside0.mk (below_drew1 HB.out)
                     obtain ⟨Ao36, co36, eo36⟩ := Kd.R_slice HO_5.out
                     (first | subst eo36 | (injection eo36 with f1_ f2_ f3_; have f4_ := f1_.symm; have f5_ := f3_.symm; clear f1_ f2_ f3_; subst f4_; subst f5_))
                     have p572 : 0 ≤ (x34_2 : Int) := of_decide_eq_true zq25
                     have q572 : x34_2 < (x5_3.length : Int) := of_decide_eq_true zq25
                     obtain ⟨ad572, e572, hx572_0, hx572_1⟩ := at_T81 (Kd.R_reads' HO_5.out).2.2 x34_2 p572 q572
                     cases e572
                     replace p572 := eq_true p572
                     replace q572 := eq_true q572
                     have p27 : 0 ≤ (x34_2 : Int) := of_decide_eq_true zq25
                     have q27 : (x34_2 : Int) < ((x5_3.length : Int) : Int) := of_decide_eq_true zq25
                     obtain ⟨go27, co27, eo27, gb27, gl27, cl27, HG27⟩ := Kd.R_form HO_5.out (by omega)
                     (first | cases eo27 | (injection eo27 with ea_ en_ ec_; (first | subst ea_ | (injection ea_ with ea_; subst ea_)); subst ec_; clear en_))
                     have GB27 := Aside0.mk gb27
                     have GG27 := Aside0.mk HG27
                     clear gb27 gl27 HG27
                     (first | simp only [add_plain] at hx572_0 | skip)
                     (first | simp only [add_plain] at hx572_1 | skip)
                     obtain ⟨ce27, hcl27, hM27, hcc27, hfr27⟩ := Kd.R_elem HO_5.out z81 (x34_2 : Int) p27 q27
                     obtain rfl := k81_openM hM27
                     have hx27_0 : World.cell? _ ⟨go27, (x34_2 : Int).toNat * 2, none⟩ = some (.int .i64 ((rd_T81 x5_3 x34_2).f0)) := hcc27 0 _ rfl
                     have hx27_1 : World.cell? _ ⟨go27, (x34_2 : Int).toNat * 2 + 1, none⟩ = some (.int .i64 ((rd_T81 x5_3 x34_2).f1)) := hcc27 1 _ rfl
                     have hf27_0 : World.frozen? _ ⟨go27, (x34_2 : Int).toNat * 2, none⟩ = false := hfr27 0
                     have hf27_1 : World.frozen? _ ⟨go27, (x34_2 : Int).toNat * 2 + 1, none⟩ = false := hfr27 1
                     clear hcl27 hcc27 hfr27 hM27
                     replace p27 := eq_true p27
                     replace q27 := eq_true q27
                     obtain ⟨ce37, hcl37, hM37, hcc37, hfr37⟩ := Kd.R_elem HO_5.out z81 (x34_2 : Int) (of_decide_eq_true zq25) (by have h_ : (x34_2 : Int) < ((x5_3.length : Int) : Int) := of_decide_eq_true zq25; first | exact h_ | (have e_ := (Kd.R_reads' HO_5.out).1; omega) | simpa using h_)
                     obtain rfl := k81_openM hM37
                     have HP37 := (Kd.R_seg HO_5.out (x34_2 : Int) (of_decide_eq_true zq25) (by have h_ : (x34_2 : Int) < ((x5_3.length : Int) : Int) := of_decide_eq_true zq25; first | exact h_ | (have e_ := (Kd.R_reads' HO_5.out).1; omega) | simpa using h_) (seg := [.int .i64 (wrap64 (((rd_T81 x5_3 x34_2).f1) - 1))]) (j := 1) hcl37 hcc37 (show 2 ≤ 2 from by decide) (x' := (⟨(rd_T81 x5_3 x34_2).f0, wrap64 (((rd_T81 x5_3 x34_2).f1) - 1)⟩ : S81)) (k81_mkM _ _ _ (⟨(rd_T81 x5_3 x34_2).f0, wrap64 (((rd_T81 x5_3 x34_2).f1) - 1)⟩ : S81) ) (fun _ hk => hk)).1
                     rw [← Ny573.out] at HP37
                     have HQ37 := Aside0.mk HP37
                     clear hcl37 hcc37 hfr37 hM37 HP37
                     refine start_ (n := 9) (S := fun w' => w'.cell? ⟨go27, ((x34_2).toNat * 2), none⟩ = some (.int .i64 ((rd_T81 x5_3 x34_2).f0)) ∧ w'.cell? ⟨go27, ((x34_2).toNat * 2) + 1, none⟩ = some (.int .i64 ((rd_T81 x5_3 x34_2).f1))) (ds := [8]) #[false, false, false, false, false, false, false, false, false] zq1 rfl rfl ⟨hx572_0, hx572_1⟩ (fun hHeld => ?_); refine with_tabW clock_Ranks.tab17 clock_Ranks.bits17 (fun HT_ HW_ => ?_)
                     generalize w34.drew = w35 at HO_5 BK568 BK570 HB GG27 HQ37 hf27_0 hf27_1 hx27_0 hx27_1 hx572_0 hx572_1 hHeld ⊢
                     refine zpz (i := 0) (N := some 50) (any_of HT_.out zq1) ?_
                     refine zpz (i := 1) (N := some 51) (any_of HT_.out zq1) ?_
                     refine zpz (i := 2) (N := some 52) (any_of HT_.out zq1) ?_
                     refine zpz (i := 3) (N := some 53) (any_of HT_.out zq1) ?_
                     refine zpz (i := 6) (N := some 56) (any_of HT_.out zq1) ?_
                     refine ztz (i := 4) (N := some 54) (take_ofW HT_.out HW_.out zq1) hHeld ?_
                     refine zpz (i := 5) (N := some 55) (any_of HT_.out zq1) ?_
                     refine zpz (i := 7) (N := some 57) (any_of HT_.out zq1) ?_
                     refine last_ (i := 8) (N := none) #[true, true, true, true, true, true, true, true, true] rfl rfl (one_of HT_.out zq1) (by decide) (fun K hK => ?_)
                     refine skip_ (w1 := ?_) (by rfl) rfl ?_ ?_
                     rotate_left
                     ·go_simp
                      rfl
                     refine hK.out _ _ ?_
                     clear hK K
                     refine done_ (done_of HT_.out zq1) ?_
                     try go_wp2
                     have n0_ : Aside0 (Kd.R k81 81 (w35.setCell ⟨go27, (x34_2 : Int).toNat * 2 + 1, none⟩ (.int .i64 (wrap64 (((rd_T81 x5_3 x34_2).f1) - 1)))) w.heap.size (fun _ => True) (.slice (some ⟨go27, 0, none⟩) x5_3.length co36) y573) := ⟨by (with_reducible repeat (first | apply Kd.R_alloc | apply Kd.R_drewN | apply Kd.R_drew)); exact HQ37.out⟩
                     have n1_ : Aside0 ((w35.setCell ⟨go27, (x34_2 : Int).toNat * 2 + 1, none⟩ (.int .i64 (wrap64 (((rd_T81 x5_3 x34_2).f1) - 1)))).heap[gb568]? = some (.cells #[.int .i64 ((rd_T35 l0 x34_2).f0), .int .i64 ((rd_T35 l0 x34_2).f1)] 35 (0, 0))) := ⟨by (with_reducible repeat (first | refine blk_drewN ?_ _ | refine blk_drew ?_ | refine blk_alloc ?_ _)); refine blk_far ?_ (by have h_ := Kd.R_ne HO_5.out BK568.out (by decide); intro e_; exact h_ (by rw [e_]; rfl)) _; (with_reducible repeat (first | refine blk_drewN ?_ _ | refine blk_drew ?_ | refine blk_alloc ?_ _)); exact BK568.out⟩
                     have n2_ : Aside0 ((w35.setCell ⟨go27, (x34_2 : Int).toNat * 2 + 1, none⟩ (.int .i64 (wrap64 (((rd_T81 x5_3 x34_2).f1) - 1)))).heap[gb570]? = some (.cells #[.int .i64 ((rd_T35 l0 x41_3).f0), .int .i64 ((rd_T35 l0 x41_3).f1)] 35 (0, 0))) := ⟨by (with_reducible repeat (first | refine blk_drewN ?_ _ | refine blk_drew ?_ | refine blk_alloc ?_ _)); refine blk_far ?_ (by have h_ := Kd.R_ne HO_5.out BK570.out (by decide); intro e_; exact h_ (by rw [e_]; rfl)) _; (with_reducible repeat (first | refine blk_drewN ?_ _ | refine blk_drew ?_ | refine blk_alloc ?_ _)); exact BK570.out⟩
                     have n3_ : Aside0 (Below w.heap.size w (w35.setCell ⟨go27, (x34_2 : Int).toNat * 2 + 1, none⟩ (.int .i64 (wrap64 (((rd_T81 x5_3 x34_2).f1) - 1))))) := ⟨zbz⟩
                     (try clear HO_5)
                     (try clear BK568)
                     (try clear BK570)
                     (try clear HB)
                     generalize (w35.setCell ⟨go27, (x34_2 : Int).toNat * 2 + 1, none⟩ (.int .i64 (wrap64 (((rd_T81 x5_3 x34_2).f1) - 1)))) = w38 at n0_ n1_ n2_ n3_ ⊢
                     have HO_5 := n0_
                     have BK568 := n1_
                     have BK570 := n2_
                     have HB := n3_
                     clear n0_ n1_ n2_ n3_
                     replace HO_5 := Aside0.mk (Kd.R_drew HO_5.out)
                     replace BK568 := Aside0.mk (blk_drew BK568.out)
                     replace BK570 := Aside0.mk (blk_drew BK570.out)
                     replace HB := Aside0.mk (below_drew1 HB.out)
                     have p574 : 0 ≤ (x41_3 : Int) := of_decide_eq_true zq25
                     have q574 : x41_3 < (y573.length : Int) := (by have h_ : (x41_3 : Int) < ((x5_3.length : Int) : Int) := of_decide_eq_true zq25; first | (have e_ := (Kd.R_reads' HO_5.out).1; omega) | simpa only [Ny573.out, List.length_set] using h_)
                     have ql574 : ((x41_3 : Int) < ((x5_3.length : Int) : Int)) = True := eq_true (of_decide_eq_true zq25)
                     obtain ⟨ad574, e574, hx574_0, hx574_1⟩ := at_T81 (Kd.R_reads' HO_5.out).2.2 x41_3 p574 q574
                     obtain rfl : (⟨go27, 0, none⟩ : Addr) = ad574 := (by injection e574)
                     (first | simp only [add_plain] at hx574_0 | simp only [add_at] at hx574_0 | simp only [Addr.add, Nat.zero_add] at hx574_0 | skip)
                     (first | simp only [add_plain] at hx574_1 | simp only [add_at] at hx574_1 | simp only [Addr.add, Nat.zero_add] at hx574_1 | skip)
                     replace p574 := eq_true p574
                     replace q574 := eq_true q574
                     have p29 : 0 ≤ (x41_3 : Int) := of_decide_eq_true zq25
                     have q29 : (x41_3 : Int) < ((x5_3.length : Int) : Int) := of_decide_eq_true zq25
                     obtain ⟨ce29, hcl29, hM29, hcc29, hfr29⟩ := Kd.R_elem HO_5.out z81 (x41_3 : Int) p29 q29
                     obtain rfl := k81_openM hM29
                     have hx29_0 : World.cell? _ ⟨go27, (x41_3 : Int).toNat * 2, none⟩ = some (.int .i64 ((rd_T81 y573 x41_3).f0)) := hcc29 0 _ rfl
                     have hx29_1 : World.cell? _ ⟨go27, (x41_3 : Int).toNat * 2 + 1, none⟩ = some (.int .i64 ((rd_T81 y573 x41_3).f1)) := hcc29 1 _ rfl
                     have hf29_0 : World.frozen? _ ⟨go27, (x41_3 : Int).toNat * 2, none⟩ = false := hfr29 0
                     have hf29_1 : World.frozen? _ ⟨go27, (x41_3 : Int).toNat * 2 + 1, none⟩ = false := hfr29 1
                     clear hcl29 hcc29 hfr29 hM29
                     replace p29 := eq_true p29
                     replace q29 := eq_true q29
                     obtain ⟨ce40, hcl40, hM40, hcc40, hfr40⟩ := Kd.R_elem HO_5.out z81 (x41_3 : Int) (of_decide_eq_true zq25) (by have h_ : (x41_3 : Int) < ((x5_3.length : Int) : Int) := of_decide_eq_true zq25; first | exact h_ | (have e_ := (Kd.R_reads' HO_5.out).1; omega) | simpa using h_)
                     obtain rfl := k81_openM hM40
                     have HP40 := (Kd.R_seg HO_5.out (x41_3 : Int) (of_decide_eq_true zq25) (by have h_ : (x41_3 : Int) < ((x5_3.length : Int) : Int) := of_decide_eq_true zq25; first | exact h_ | (have e_ := (Kd.R_reads' HO_5.out).1; omega) | simpa using h_) (seg := [.int .i64 (wrap64 (((rd_T81 y573 x41_3).f0) + 1))]) (j := 0) hcl40 hcc40 (show 1 ≤ 2 from by decide) (x' := (⟨wrap64 (((rd_T81 y573 x41_3).f0) + 1), (rd_T81 y573 x41_3).f1⟩ : S81)) (k81_mkM _ _ _ (⟨wrap64 (((rd_T81 y573 x41_3).f0) + 1), (rd_T81 y573 x41_3).f1⟩ : S81) ) (fun _ hk => hk)).1
                     rw [← Ny575.out] at HP40
                     have HQ40 := Aside0.mk HP40
                     clear hcl40 hcc40 hfr40 hM40 HP40
                     refine start_ (n := 9) (S := fun w' => w'.cell? ⟨go27, (x41_3).toNat * 2, none⟩ = some (.int .i64 ((rd_T81 y573 x41_3).f0)) ∧ w'.cell? ⟨go27, (x41_3).toNat * 2 + 1, none⟩ = some (.int .i64 ((rd_T81 y573 x41_3).f1))) (ds := [8]) #[false, false, false, false, false, false, false, false, false] zq1 rfl rfl ⟨hx574_0, hx574_1⟩ (fun hHeld => ?_); refine with_tabW clock_Ranks.tab18 clock_Ranks.bits18 (fun HT_ HW_ => ?_)
                     generalize w38.drew = w39 at HO_5 BK568 BK570 HB HQ37 HQ40 hf29_0 hf29_1 hx29_0 hx29_1 hx574_0 hx574_1 hHeld ⊢
                     refine zpz (i := 0) (N := some 58) (any_of HT_.out zq1) ?_
                     refine zpz (i := 1) (N := some 59) (any_of HT_.out zq1) ?_
                     refine zpz (i := 2) (N := some 60) (any_of HT_.out zq1) ?_
                     refine zpz (i := 3) (N := some 61) (any_of HT_.out zq1) ?_
                     refine zpz (i := 6) (N := some 64) (any_of HT_.out zq1) ?_
                     refine ztz (i := 4) (N := some 62) (take_ofW HT_.out HW_.out zq1) hHeld ?_
                     refine zpz (i := 5) (N := some 63) (any_of HT_.out zq1) ?_
                     refine zpz (i := 7) (N := some 65) (any_of HT_.out zq1) ?_
                     refine last_ (i := 8) (N := none) #[true, true, true, true, true, true, true, true, true] rfl rfl (one_of HT_.out zq1) (by decide) (fun K hK => ?_)
                     refine skip_ (w1 := ?_) (by rfl) rfl ?_ ?_
                     rotate_left
                     ·go_simp
                      rfl
                     refine hK.out _ _ ?_
                     clear hK K
                     refine done_ (done_of HT_.out zq1) ?_
                     try go_wp2
                     go_roundg k3
                     case measure => have := HK1.out; have := HK2.out; have := HK3.out; omega
                     case rel => exact ⟨(y575), (wrap64 (x41_3 + 1)), zq23, H', ⟨zq41⟩, ⟨by (with_reducible repeat (first | apply Kd.R_alloc | apply Kd.R_drewN | apply Kd.R_drew)); exact HQ40.out⟩, ⟨by (with_reducible repeat (first | refine blk_drewN ?_ _ | refine blk_drew ?_ | refine blk_alloc ?_ _)); refine blk_far ?_ (by have h_ := Kd.R_ne HO_5.out BK568.out (by decide); intro e_; exact h_ (by rw [e_]; rfl)) _; (with_reducible repeat (first | refine blk_drewN ?_ _ | refine blk_drew ?_ | refine blk_alloc ?_ _)); exact BK568.out⟩, ⟨zbz⟩⟩
                    ·rw [if_neg c28] at H
                     exact absurd H (by simp)
                   ·rw [if_neg c26] at H
                    exact absurd H (by simp)
                  ·rw [if_neg c25] at H
                   exact absurd H (by simp)
                 ·rw [if_neg c24] at H
                  have c24b0 : (t571 == 2) = false := beq_eq_false_iff_ne.mpr c24
                  have c24b1 : (t571 != 2) = true := bne_iff_ne.mpr c24
                  have H' := Aside0.mk H
                  clear H
                  have p569 : 0 ≤ (x41_3 : Int) := of_decide_eq_true zq25
                  have q569 : x41_3 < (l0.length : Int) := of_decide_eq_true zq25
                  obtain ⟨ad569, e569, hx569_0, hx569_1⟩ := at_T35 HR0.out x41_3 p569 q569
                  obtain rfl : ad567 = ad569 := (by injection e569)
                  replace hx569_0 := (HB.out.cell (World.block_lt_of_cell? w _ hx569_0)).trans hx569_0
                  replace hx569_1 := (HB.out.cell (World.block_lt_of_cell? w _ hx569_1)).trans hx569_1
                  replace p569 := eq_true p569
                  replace q569 := eq_true q569
                  go_wp2_with (first | ((with_reducible refine gate_dst (N := 10) rfl ?_); refine box_event (by rfl) (N := 10) (by rfl) (cs := #[.int .i64 0, .int .i64 0]) (t := 35) zq2 ?_; intro gb570 hg w41 hbox hb; have BK570 := Aside0.mk (hbox); have GW570 := zgs HB hg; have GE570 := zgs HB hg; have NB568_570 := znp BK568 hg; have NB570_568 := znq BK568 hg; replace HO_5 := zrb HO_5 hb; replace BK568 := zbb BK568 hb; replace HB := zbs HB hb; clear hb hbox hg; have hnb42 := NB570_568.out; have hnc42 := NB568_570.out; obtain ⟨hcz43_0, hcz43_1, hfz43_0, hfz43_1⟩ := zce2 BK570.out; obtain ⟨hcz44_0, hcz44_1, hfz44_0, hfz44_1⟩ := zce2 BK568.out) | ((with_reducible refine gate_callee (f := 79) rfl ?_); refine goesL_ (some 48) rfl rfl Try.func79 zq1 rfl #[.agg #[.int .i64 ((rd_T35 l0 x34_2).f0), .int .i64 ((rd_T35 l0 x34_2).f1)], .agg #[.int .i64 ((rd_T35 l0 x41_3).f0), .int .i64 ((rd_T35 l0 x41_3).f1)]] rfl zq26 ?_; (with_reducible refine (clock_before.calls ((rd_T35 l0 x34_2).f0) ((rd_T35 l0 x34_2).f1) ((rd_T35 l0 x41_3).f0) ((rd_T35 l0 x41_3).f1) t571 _ A23.out).mono ?_); rintro e w45 ⟨rfl, hb⟩; refine ⟨_, rfl, ?_⟩; have n0_ := Aside0.mk (Kd.R_below zq40 hb); have n1_ := zbb BK568 hb; have n2_ := Aside0.mk (blk_below (g := gb570) (o := .cells #[.int .i64 ((rd_T35 l0 x41_3).f0), .int .i64 ((rd_T35 l0 x41_3).f1)] 35 (0, 0)) (by (with_reducible repeat (first | refine blk_drewN ?_ _ | refine blk_drew ?_ | refine blk_alloc ?_ _)); refine blk_put (cs := #[.int .i64 ((rd_T35 l0 x41_3).f0), .int .i64 0]) ?_ 1 _ rfl; (with_reducible repeat (first | refine blk_drewN ?_ _ | refine blk_drew ?_ | refine blk_alloc ?_ _)); refine blk_put (cs := #[.int .i64 0, .int .i64 0]) ?_ 0 _ rfl; (with_reducible repeat (first | refine blk_drewN ?_ _ | refine blk_drew ?_ | refine blk_alloc ?_ _)); exact BK570.out) hb); have n3_ := zbs HB hb; clear HO_5; clear BK568; clear BK570; clear HB; have HO_5 := n0_; have BK568 := n1_; have BK570 := n2_; have HB := n3_; clear n0_ n1_ n2_ n3_; (try clear hb); (try clear hb2); (try clear hk); (try clear hi)))
                  go_roundg k3
                  case measure => have := HK1.out; have := HK2.out; have := HK3.out; omega
                  case rel => exact ⟨(x5_3), (wrap64 (x41_3 + 1)), zq23, H', ⟨zq41⟩, ⟨zq39⟩, ⟨zbf⟩, ⟨zbz⟩⟩
                ·rw [if_neg c22] at H
                 exact absurd H (by simp)
               ·rw [if_neg c21] at H
                exact absurd H (by simp)
              ·rw [if_neg c20] at H
               have c20b0 : decide (x41_3 < (l0.length : Int)) = false := decide_eq_false c20
               clear c20
               have H' := Aside0.mk H
               clear H
               go_wp2
               go_roundg k3
               case measure => have := HK1.out; have := HK2.out; have := HK3.out; omega
               case rel => exact ⟨(x5_3), (wrap64 (x34_2 + 1)), zq23, H', ⟨zq41⟩, ⟨zq39⟩, ⟨zbz⟩⟩
           ·rw [if_neg c17] at H
            exact absurd H (by simp)
          ·rw [if_neg c16] at H
           exact absurd H (by simp)
         ·rw [if_neg c15] at H
          have c15b0 : decide (x34_2 < (l0.length : Int)) = false := decide_eq_false c15
          clear c15
          simp only [Option.some.injEq, Prod.mk.injEq] at H
          obtain ⟨rfl, rfl⟩ := H
          go_wp2
          go_ret2
          exact ⟨_, zq3, zq39, zbz⟩
   ·rw [if_neg c5] at H
    exact absurd H (by simp)
  ·rw [if_neg c4] at H
   exact absurd H (by simp)
 ·rw [if_neg c3] at H
  have c3b0 : (t562 == 0) = false := beq_eq_false_iff_ne.mpr c3
  have c3b1 : (t562 != 0) = true := bne_iff_ne.mpr c3
  simp only [Option.some.injEq, Prod.mk.injEq] at H
  obtain ⟨rfl, rfl⟩ := H
  go_enter Try.func47, Try.ntmps47
  go_wp2_with (first | ((with_reducible refine gate_callee (f := 81) rfl ?_); refine goesL_ (some 12) rfl rfl Try.func81 zq1 rfl #[.slice A0 l0.length c0] rfl zq26 ?_; (with_reducible refine (clock_checkMany.calls _ _ l0 t562 _ ?side1 ?side2 A2.out).mono ?_); (case side1 => repeat (first | exact HR0.out | (with_reducible refine Kd.C_alloc ?_ _) | (with_reducible refine Kd.C_drewN ?_ _) | (with_reducible refine Kd.C_drew ?_))); (case side2 => exact HC0.out); rintro e w46 ⟨rfl, hb⟩; refine ⟨_, rfl, ?_⟩; replace HB := zbs HB hb; (try clear hb); (try clear hb2); (try clear hk); (try clear hi)))
  go_ret2
  exact ⟨_, zq3, zq42, zbz⟩

end Go.Proofs.Ytcjdhajdoikojaa.Pr
end
section
namespace Go.Proofs.Ytcjdhajdoikojaa.Pr
open Go.RowKit Go.Proofs.YtcjdhajdoikojaaW.PrintWords Go.Proofs.YtcjdhajdoikojaaW.PrintLast Go.Proofs.YtcjdhajdoikojaaW.PrintMore
attribute [local go_sem] max2_int min2_int max_two min_two
set_option linter.unusedVariables false
set_option linter.unusedSimpArgs false

/-! ### isobathlaw01_Part: function 51 -/
def isobathlaw01_Part.f (a0_0 : Int) (a0_1 : Int) (a1 : Int) : Option (Int) := some (wrap64 (a0_0 + (wrap64 (Int.tdiv (wrap64 ((wrap64 (a0_1 - a0_0)) * (wrap64 (a1)))) 65535))))
set_option maxHeartbeats 80000000 in
set_option maxRecDepth 100000 in
theorem isobathlaw01_Part.calls (a0_0 : Int) (a0_1 : Int) (a1 : Int) (r : Int) (w : World) (h : isobathlaw01_Part.f a0_0 a0_1 a1 = some r) :
  Calls Try.prog 51 #[.agg #[.int .i64 a0_0, .int .i64 a0_1], .int .u16 a1] w fun e w' => e = .returned (.int .i64 r) ∧ Below w.heap.size w w' := by
 have hu35 := Try.underlying35
 have HB := Aside0.mk (Below.refl w.heap.size w)
 have H : (some (wrap64 (a0_0 + (wrap64 (Int.tdiv (wrap64 ((wrap64 (a0_1 - a0_0)) * (wrap64 (a1)))) 65535))))) = some r := h
 clear h
 obtain rfl := Option.some.inj H
 go_enter Try.func51, Try.ntmps51
 go_wp2_with (first | ((with_reducible refine gate_dst (N := 2) rfl ?_); refine box_event (by rfl) (N := 2) (by rfl) (cs := #[.int .i64 a0_0, .int .i64 a0_1]) (t := 35) zq2 ?_; intro gb627 hg w3 hbox hb; have BK627 := Aside0.mk (hbox); have GW627 := zgs HB hg; have GE627 := zgs HB hg; replace HB := zbs HB hb; clear hb hbox hg; obtain ⟨hcz4_0, hcz4_1, hfz4_0, hfz4_1⟩ := zce2 BK627.out))
 go_ret
 exact ⟨zq3, zbz⟩

end Go.Proofs.Ytcjdhajdoikojaa.Pr
end
