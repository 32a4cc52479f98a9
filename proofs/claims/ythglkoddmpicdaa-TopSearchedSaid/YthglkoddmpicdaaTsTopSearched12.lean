/- Part 12 of the proof of TopSearched: what the functions compute. No condition. -/
import Derived.Test.YthglkoddmpicdaaTsTopSearched3
import Derived.Test.YthglkoddmpicdaaTsTopSearched11
set_option linter.unusedVariables false
set_option linter.unusedSimpArgs false
section
namespace Go.Proofs.Ythglkoddmpicdaa.Pr
open Go.RowKit Go.Proofs.YthglkoddmpicdaaW.PrintWords Go.Proofs.YthglkoddmpicdaaW.PrintLast Go.Proofs.YthglkoddmpicdaaW.PrintMore
attribute [local go_sem] max2_int min2_int max_two min_two max_four
set_option linter.unusedVariables false
set_option linter.unusedSimpArgs false

/-! ### bound_meet: function 60 -/
def bound_meet.f (a0_0 : Int) (a0_1 : Int) (a1_0 : Int) (a1_1 : Int) : Option (Int × Int × Bool) := some (mx a0_0 a1_0, mn a0_1 a1_1, decide ((mx a0_0 a1_0) ≤ (mn a0_1 a1_1)))
def bound_meet.T2 : Bool × List (List Nat × List Nat) := (true, [([], []), ([], []), ([1], [1]), ([], []), ([3], [3]), ([2, 4], [2, 4]), ([0, 0], [0]), ([5, 6, 0, 1, 2, 3, 4, 5, 6], [5])])
def bound_meet.B2 : List Nat := [0, 0, 2, 0, 8, 30, 1, 127]
theorem bound_meet.tab2 : rtab .any (opsOf Try.f60 2) = bound_meet.T2 := by kernel_rfl
theorem bound_meet.bits2 : waitsOk bound_meet.T2.2 bound_meet.B2 = true := by kernel_rfl
set_option maxHeartbeats 8000000 in
set_option maxRecDepth 100000 in
theorem bound_meet.calls (a0_0 : Int) (a0_1 : Int) (a1_0 : Int) (a1_1 : Int) (r1 : Int) (r2 : Int) (r3 : Bool) (w : World) (h : bound_meet.f a0_0 a0_1 a1_0 a1_1 = some (r1, r2, r3)) :
  Calls Try.prog 60 #[.agg #[.int .i64 a0_0, .int .i64 a0_1], .agg #[.int .i64 a1_0, .int .i64 a1_1]] w fun e w' => e = .returned (.tuple #[.agg #[.int .i64 r1, .int .i64 r2], .bool r3]) ∧ Below w.heap.size w w' := by
 have hu27 := Try.underlying27
 have HB := Aside0.mk (Below.refl w.heap.size w)
 have H : (some (mx a0_0 a1_0, mn a0_1 a1_1, decide ((mx a0_0 a1_0) ≤ (mn a0_1 a1_1)))) = some (r1, r2, r3) := h
 clear h
 obtain ⟨ji3, hji3⟩ : ∃ j_ : Int, (mx a0_0 a1_0) = j_ := ⟨_, rfl⟩
 replace H : (some (ji3, mn a0_1 a1_1, decide ((ji3) ≤ (mn a0_1 a1_1)))) = some (r1, r2, r3) := by first | (rw [hji3] at H; exact H) | (simp only [hji3] at H ⊢; exact H)
 have hji3_ : (if a0_0 < a1_0 then a1_0 else a0_0) = ji3 := hji3
 obtain ⟨ji4, hji4⟩ : ∃ j_ : Int, (mn a0_1 a1_1) = j_ := ⟨_, rfl⟩
 replace H : (some (ji3, ji4, decide ((ji3) ≤ (ji4)))) = some (r1, r2, r3) := by first | (rw [hji4] at H; exact H) | (simp only [hji4] at H ⊢; exact H)
 have hji4_ : (if a1_1 < a0_1 then a1_1 else a0_1) = ji4 := hji4
 simp only [Option.some.injEq, Prod.mk.injEq] at H
 obtain ⟨rfl, rfl, rfl⟩ := H
 go_enter Try.func60, Try.ntmps60
 try go_wp2_with (first | ((with_reducible refine gate_dst (N := 2) rfl ?_); refine box_event (by rfl) (N := 2) (by rfl) (cs := #[.int .i64 a0_0, .int .i64 a0_1]) (t := 27) zq1 ?_; intro gb214 hg w5 hbox hb; have BK214 := Aside0.mk (hbox); have GW214 := zgs HB hg; have GE214 := zgs HB hg; replace HB := zbs HB hb; clear hb hbox hg) | ((with_reducible refine gate_dst (N := 3) rfl ?_); refine box_event (by rfl) (N := 3) (by rfl) (cs := #[.int .i64 a1_0, .int .i64 a1_1]) (t := 27) zq1 ?_; intro gb215 hg w6 hbox hb; have BK215 := Aside0.mk (hbox); have GW215 := zgs HB hg; have GE215 := zgs HB hg; have NB214_215 := znp BK214 hg; have NB215_214 := znq BK214 hg; replace BK214 := zbb BK214 hb; replace HB := zbs HB hb; clear hb hbox hg) | ((with_reducible refine gate_dst (N := 4) rfl ?_); refine box_event (by rfl) (N := 4) (by rfl) (cs := #[.int .i64 0, .int .i64 0]) (t := 27) zq1 ?_; intro gb216 hg w7 hbox hb; have BK216 := Aside0.mk (hbox); have GW216 := zgs HB hg; have GE216 := zgs HB hg; have NB214_216 := znp BK214 hg; have NB216_214 := znq BK214 hg; have NB215_216 := znp BK215 hg; have NB216_215 := znq BK215 hg; replace BK214 := zbb BK214 hb; replace BK215 := zbb BK215 hb; replace HB := zbs HB hb; clear hb hbox hg; have hnb8 := NB214_215.out; have hnc8 := NB215_214.out; have hnb9 := NB214_216.out; have hnc9 := NB216_214.out; obtain ⟨hcz10_0, hcz10_1, hfz10_0, hfz10_1⟩ := zce2 BK214.out; have hnb11 := NB215_216.out; have hnc11 := NB216_215.out; obtain ⟨hcz12_0, hcz12_1, hfz12_0, hfz12_1⟩ := zce2 BK215.out) | ((with_reducible refine gate_dst (N := 6) rfl ?_); refine box_event (by rfl) (N := 6) (by rfl) (cs := #[.int .i64 0, .int .i64 0]) (t := 27) zq1 ?_; intro gb217 hg w13 hbox hb; have BK217 := Aside0.mk (hbox); have GW217 := zgs HB hg; have GE217 := zgs HB hg; have NB214_217 := znp BK214 hg; have NB217_214 := znq BK214 hg; have NB215_217 := znp BK215 hg; have NB217_215 := znq BK215 hg; have NB216_217 := znp BK216 hg; have NB217_216 := znq BK216 hg; replace BK214 := zbb BK214 hb; replace BK215 := zbb BK215 hb; replace BK216 := zbb BK216 hb; replace HB := zbs HB hb; clear hb hbox hg; have hnb14 := NB217_214.out; have hnc14 := NB214_217.out; have hnb15 := NB217_215.out; have hnc15 := NB215_217.out; have hnb16 := NB217_216.out; have hnc16 := NB216_217.out; obtain ⟨hcz17_0, hcz17_1, hfz17_0, hfz17_1⟩ := zce2 BK217.out))
 have n0_ : Aside0 (((w13.setCell ⟨gb217, 0, none⟩ (.int .i64 ji3)).setCell ⟨gb217, 1, none⟩ (.int .i64 ji4)).heap[gb214]? = some (.cells #[.int .i64 a0_0, .int .i64 a0_1] 27 (0, 0))) := ⟨zbf⟩
 have n1_ : Aside0 (((w13.setCell ⟨gb217, 0, none⟩ (.int .i64 ji3)).setCell ⟨gb217, 1, none⟩ (.int .i64 ji4)).heap[gb215]? = some (.cells #[.int .i64 a1_0, .int .i64 a1_1] 27 (0, 0))) := ⟨zbf⟩
 have n2_ : Aside0 (((w13.setCell ⟨gb217, 0, none⟩ (.int .i64 ji3)).setCell ⟨gb217, 1, none⟩ (.int .i64 ji4)).heap[gb216]? = some (.cells #[.int .i64 0, .int .i64 0] 27 (0, 0))) := ⟨zbf⟩
 have n3_ : Aside0 (((w13.setCell ⟨gb217, 0, none⟩ (.int .i64 ji3)).setCell ⟨gb217, 1, none⟩ (.int .i64 ji4)).heap[gb217]? = some (.cells #[.int .i64 ji3, .int .i64 ji4] 27 (0, 0))) := ⟨by (with_reducible repeat (first | refine blk_drewN ?_ _ | refine blk_drew ?_ | refine blk_alloc ?_ _)); refine blk_put (cs := #[.int .i64 ji3, .int .i64 0]) ?_ 1 _ rfl; (with_reducible repeat (first | refine blk_drewN ?_ _ | refine blk_drew ?_ | refine blk_alloc ?_ _)); refine blk_put (cs := #[.int .i64 0, .int .i64 0]) ?_ 0 _ rfl; (with_reducible repeat (first | refine blk_drewN ?_ _ | refine blk_drew ?_ | refine blk_alloc ?_ _)); exact BK217.out⟩
 have n4_ : Aside0 (Below w.heap.size w ((w13.setCell ⟨gb217, 0, none⟩ (.int .i64 ji3)).setCell ⟨gb217, 1, none⟩ (.int .i64 ji4))) := ⟨zbz⟩
 (try clear BK214)
 (try clear BK215)
 (try clear BK216)
 (try clear BK217)
 (try clear HB)
 generalize ((w13.setCell ⟨gb217, 0, none⟩ (.int .i64 ji3)).setCell ⟨gb217, 1, none⟩ (.int .i64 ji4)) = w18 at n0_ n1_ n2_ n3_ n4_ ⊢
 have BK214 := n0_
 have BK215 := n1_
 have BK216 := n2_
 have BK217 := n3_
 have HB := n4_
 clear n0_ n1_ n2_ n3_ n4_
 replace BK214 := Aside0.mk (blk_drew BK214.out)
 replace BK215 := Aside0.mk (blk_drew BK215.out)
 replace BK216 := Aside0.mk (blk_drew BK216.out)
 replace BK217 := Aside0.mk (blk_drew BK217.out)
 replace HB := Aside0.mk (below_drew1 HB.out)
 refine start_ (n := 8) (S := fun w' => w'.cell? ⟨gb217, 0, none⟩ = some (.int .i64 ji3) ∧ w'.cell? ⟨gb217, 1, none⟩ = some (.int .i64 ji4)) (ds := []) #[false, false, false, false, false, false, false, false] zq3 rfl rfl ⟨(blk_cell BK217.out 0).trans rfl, (blk_cell BK217.out 1).trans rfl⟩ (fun hHeld => ?_); refine with_tabW bound_meet.tab2 bound_meet.bits2 (fun HT_ HW_ => ?_)
 generalize w18.drew = w19 at BK214 BK215 BK216 BK217 HB hHeld ⊢
 refine zpz (i := 1) (N := some 19) (any_of HT_.out zq3) ?_
 refine zpz (i := 3) (N := some 21) (any_of HT_.out zq3) ?_
 refine ztz (i := 0) (N := some 18) (take_ofW HT_.out HW_.out zq3) hHeld ?_
 refine ztz (i := 2) (N := some 20) (take_ofW HT_.out HW_.out zq3) hHeld ?_
 refine ztz (i := 4) (N := some 22) (take_ofW HT_.out HW_.out zq3) hHeld ?_
 refine zpz (i := 5) (N := some 23) (any_of HT_.out zq3) ?_
 refine one_ (i := 6) (N := none) #[true, true, true, true, true, true, true, false] rfl rfl (one_of HT_.out zq3) (by decide) (fun K hK => ?_)
 have hs20 : w19.cell? ⟨gb216, 0, none⟩ = some (.int .i64 0) := (blk_cell BK216.out 0).trans rfl
 have hfs20 := blk_frozen BK216.out 0
 have hns20_0 := NB214_216.out
 have hns20_1 := NB215_216.out
 have hns20_3 := NB217_216.out
 have hms20_0 := NB216_214.out
 have hms20_1 := NB216_215.out
 have hms20_3 := NB216_217.out
 have hs21 : w19.cell? ⟨gb216, 1, none⟩ = some (.int .i64 0) := (blk_cell BK216.out 1).trans rfl
 have hfs21 := blk_frozen BK216.out 1
 have hns21_0 := NB214_216.out
 have hns21_1 := NB215_216.out
 have hns21_3 := NB217_216.out
 have hms21_0 := NB216_214.out
 have hms21_1 := NB216_215.out
 have hms21_3 := NB216_217.out
 refine skip_ (w1 := ?_) (by rfl) rfl ?_ ?_
 rotate_left
 ·go_simp
  rfl
 refine hK.out _ _ ⟨((cell_far (p := ⟨gb216, _, none⟩) NB217_216.out _).trans (((cell_far (p := ⟨gb216, _, none⟩) NB217_216.out _).trans (hHeld.1)))), ((cell_far (p := ⟨gb216, _, none⟩) NB217_216.out _).trans (((cell_far (p := ⟨gb216, _, none⟩) NB217_216.out _).trans (hHeld.2))))⟩ (fun hHeld => ?_)
 clear hK K
 refine zpz (i := 7) (N := some 5) (any_of HT_.out zq3) ?_
 refine done_ (done_of HT_.out zq3) ?_
 try go_wp2
 refine bodyPost_ret (results_ct rfl _ _ gb216 27 #[.int .i64 ji3, .int .i64 ji4] (0, 0) _ rfl (by (with_reducible repeat (first | refine blk_drewN ?_ _ | refine blk_drew ?_ | refine blk_alloc ?_ _)); refine blk_put (cs := #[.int .i64 ji3, .int .i64 0]) ?_ 1 _ rfl; (with_reducible repeat (first | refine blk_drewN ?_ _ | refine blk_drew ?_ | refine blk_alloc ?_ _)); refine blk_put (cs := #[.int .i64 0, .int .i64 0]) ?_ 0 _ rfl; (with_reducible repeat (first | refine blk_drewN ?_ _ | refine blk_drew ?_ | refine blk_alloc ?_ _)); exact BK216.out) Try.underlying27 rfl zq3) rfl ?_
 exact ⟨by first | rfl | (simp [errW_none, errW_some] <;> rfl) | (simp only [← hji3, ← hji4]; first | rfl | (simp [errW_none, errW_some] <;> rfl)) | (simp [*, errW_none, errW_some] <;> rfl), zbz⟩

end Go.Proofs.Ythglkoddmpicdaa.Pr
end
section
namespace Go.Proofs.Ythglkoddmpicdaa.Pr
open Go.RowKit Go.Proofs.YthglkoddmpicdaaW.PrintWords Go.Proofs.YthglkoddmpicdaaW.PrintLast Go.Proofs.YthglkoddmpicdaaW.PrintMore
attribute [local go_sem] max2_int min2_int max_two min_two max_four
set_option linter.unusedVariables false
set_option linter.unusedSimpArgs false

attribute [local go_sem high] eqA27
/-! ### bound_In: function 45 -/
def bound_In.f (k : Nat) (a0_0 : Int) (a0_1 : Int) (a1_0 : Int) (a1_1 : Int) : Option (Int × Int) := (bound_check.f k (([(⟨a0_0, a0_1⟩ : S27), (⟨a1_0, a1_1⟩ : S27)] : List (S27)))).bind fun t289 => (if t289 = 0 then ((bound_meet.f a0_0 a0_1 a1_0 a1_1).bind fun bt290 => (if bt290.2.2 = true then (if (bt290.1 == a0_0 && (bt290.2.1 == a0_1)) = true then (some (2, 0)) else (some (1, 0))) else (some (0, 0)))) else (some (0, t289)))
theorem bound_In.mono : ∀ a0 a1 a2 a3 k, LeO (bound_In.f k a0 a1 a2 a3) (bound_In.f (k + 1) a0 a1 a2 a3) := by
 intro a0 a1 a2 a3 k
 unfold bound_In.f
 repeat' first
   | (with_reducible exact bound_check.mono _ _)
   | (with_reducible exact LeO.refl _)
   | (with_reducible exact LeO.none _)
   | (with_reducible refine LeO.ite ?_ ?_)
   | (with_reducible refine LeO.bind ?_ (fun _ => ?_))
   | exact bound_check.mono _ _
   | exact LeO.none _
   | refine LeO.ite ?_ ?_
   | refine LeO.bind ?_ (fun _ => ?_)
set_option maxHeartbeats 8000000 in
set_option maxRecDepth 100000 in
theorem bound_In.calls (k : Nat) (a0_0 : Int) (a0_1 : Int) (a1_0 : Int) (a1_1 : Int) (r1 : Int) (r2 : Int) (w : World) (h : bound_In.f k a0_0 a0_1 a1_0 a1_1 = some (r1, r2)) :
  Calls Try.prog 45 #[.agg #[.int .i64 a0_0, .int .i64 a0_1], .agg #[.int .i64 a1_0, .int .i64 a1_1]] w fun e w' => e = .returned (.tuple #[.int .i64 r1, .int .i64 r2]) ∧ Below w.heap.size w w' := by
 have hu27 := Try.underlying27
 have HB := Aside0.mk (Below.refl w.heap.size w)
 have H : ((bound_check.f k (([(⟨a0_0, a0_1⟩ : S27), (⟨a1_0, a1_1⟩ : S27)] : List (S27)))).bind fun t289 => (if t289 = 0 then ((bound_meet.f a0_0 a0_1 a1_0 a1_1).bind fun bt290 => (if bt290.2.2 = true then (if (bt290.1 == a0_0 && (bt290.2.1 == a0_1)) = true then (some (2, 0)) else (some (1, 0))) else (some (0, 0)))) else (some (0, t289)))) = some (r1, r2) := h
 clear h
 obtain ⟨y286, hy286⟩ : ∃ y_ : List (S27), y_ = (([(⟨a0_0, a0_1⟩ : S27), (⟨a1_0, a1_1⟩ : S27)] : List (S27))) := ⟨_, rfl⟩
 replace H : ((bound_check.f k y286).bind fun t289 => (if t289 = 0 then ((bound_meet.f a0_0 a0_1 a1_0 a1_1).bind fun bt290 => (if bt290.2.2 = true then (if (bt290.1 == a0_0 && (bt290.2.1 == a0_1)) = true then (some (2, 0)) else (some (1, 0))) else (some (0, 0)))) else (some (0, t289)))) = some (r1, r2) := by first | (rw [hy286]; with_reducible exact H) | (have H2_ := (Option.bind_some _ _).symm.trans H; rw [hy286]; with_reducible exact H2_) | (have H2_ := (Option.bind_some _ _).symm.trans H; with_reducible exact H2_) | with_reducible exact H | (rw [hy286]; exact H) | exact H
 have Ny286 := Aside0.mk hy286
 clear hy286
 replace H := Option.bind_eq_some_iff.mp H
 obtain ⟨t289, A30, H⟩ := H
 replace H : (if t289 = 0 then ((bound_meet.f a0_0 a0_1 a1_0 a1_1).bind fun bt290 => (if bt290.2.2 = true then (if (bt290.1 == a0_0 && (bt290.2.1 == a0_1)) = true then (some (2, 0)) else (some (1, 0))) else (some (0, 0)))) else (some (0, t289))) = some (r1, r2) := H
 have A3 := Aside0.mk A30
 clear A30
 by_cases c4 : t289 = 0
 ·rw [if_pos c4] at H
  have c4b0 : (t289 == 0) = true := beq_iff_eq.mpr c4
  have c4b1 : (t289 != 0) = false := bne_eq_false_iff_eq.mpr c4
  clear c4
  replace H := Option.bind_eq_some_iff.mp H
  obtain ⟨⟨t290, t291, t292⟩, A50, H⟩ := H
  replace H : (if t292 = true then (if (t290 == a0_0 && (t291 == a0_1)) = true then (some (2, 0)) else (some (1, 0))) else (some (0, 0))) = some (r1, r2) := H
  have A5 := Aside0.mk A50
  clear A50
  by_cases c6 : t292 = true
  ·subst c6
   have H1 : (if (t290 == a0_0 && (t291 == a0_1)) = true then (some (2, 0)) else (some (1, 0))) = some (r1, r2) := by rw [if_pos rfl] at H; exact H
   clear H
   have H := H1
   clear H1
   by_cases c7 : (t290 == a0_0 && (t291 == a0_1)) = true
   ·rw [if_pos c7] at H
    have c7b0 : (t290 == a0_0 && (t291 == a0_1)) = true := c7
    (try (have c7b1 : decide (t290 = a0_0 && (t291 == a0_1)) = true := by simpa using c7))
    (try (have c7b2 : (t290 == a0_0 && (t291 == a0_1)) = true := by simpa using c7))
    clear c7
    simp only [Option.some.injEq, Prod.mk.injEq] at H
    obtain ⟨rfl, rfl⟩ := H
    go_enter Try.func45, Try.ntmps45
    go_wp2_with (first | ((with_reducible refine gate_dst (N := 2) rfl ?_); refine box_event (by rfl) (N := 2) (by rfl) (cs := #[.int .i64 a0_0, .int .i64 a0_1]) (t := 27) zq1 ?_; intro gb284 hg w8 hbox hb; have BK284 := Aside0.mk (hbox); have GW284 := zgs HB hg; have GE284 := zgs HB hg; replace HB := zbs HB hb; clear hb hbox hg) | ((with_reducible refine gate_dst (N := 3) rfl ?_); refine box_event (by rfl) (N := 3) (by rfl) (cs := #[.int .i64 a1_0, .int .i64 a1_1]) (t := 27) zq1 ?_; intro gb285 hg w9 hbox hb; have BK285 := Aside0.mk (hbox); have GW285 := zgs HB hg; have GE285 := zgs HB hg; have NB284_285 := znp BK284 hg; have NB285_284 := znq BK284 hg; replace BK284 := zbb BK284 hb; replace HB := zbs HB hb; clear hb hbox hg; have hnb10 := NB284_285.out; have hnc10 := NB285_284.out; obtain ⟨hcz11_0, hcz11_1, hfz11_0, hfz11_1⟩ := zce2 BK284.out; obtain ⟨hcz12_0, hcz12_1, hfz12_0, hfz12_1⟩ := zce2 BK285.out) | ((with_reducible refine gate_dst (N := 11) rfl ?_); refine Kd.R_lit k27 _ 27 (by rfl) (N := 11) (by rfl) (xs := ([(⟨a0_0, a0_1⟩ : S27), (⟨a1_0, a1_1⟩ : S27)] : List (S27))) (inner := [.int .i64 a0_0, .int .i64 a0_1, .int .i64 a1_0, .int .i64 a1_1]) (ok := fun _ => True) (okp := fun _ => True) zq1 zq9 (fun _ hk => hk) trivial (Below.refl _ _) (Nat.le_refl _) (by simp) ?_; intro v287 w13 ho14 hb hg_ hnew_; clear hg_ hnew_; (first | rw [← Ny286.out] at ho14 | (simp only [Int.reduceToNat] at ho14; rw [← Ny286.out] at ho14)); have HO288 := Aside0.mk (Kd.R_lower (Kd.R_newB (Kd.R_newB ho14 (g := gb284) (o := .cells #[.int .i64 a0_0, .int .i64 a0_1] 27 (0, 0)) zbf) (g := gb285) (o := .cells #[.int .i64 a1_0, .int .i64 a1_1] 27 (0, 0)) zbf) (below_size zbz)); replace BK284 := zbb BK284 hb; replace BK285 := zbb BK285 hb; replace HB := zbs HB hb; clear hb ho14; obtain ⟨Ao15, co15, eo15⟩ := Kd.R_slice HO288.out; subst eo15) | ((with_reducible refine gate_callee (f := 59) rfl ?_); refine goesL_ (some 12) rfl rfl Try.func59 zq3 rfl #[.slice Ao15 y286.length co15] rfl zq8 ?_; (with_reducible refine (bound_check.calls k _ _ y286 t289 _ ?side1 ?side2 A3.out).mono ?_); (case side1 => repeat (first | exact (Kd.R_reads' HO288.out).2.2 | (with_reducible refine Kd.C_alloc ?_ _) | (with_reducible refine Kd.C_drewN ?_ _) | (with_reducible refine Kd.C_drew ?_))); (case side2 => exact (Kd.R_reads' HO288.out).2.1); rintro e w16 ⟨rfl, hb⟩; refine ⟨_, rfl, ?_⟩; replace HO288 := zrb HO288 hb; replace BK284 := zbb BK284 hb; replace BK285 := zbb BK285 hb; replace HB := zbs HB hb; (try clear hb); (try clear hb2); (try clear hk); (try clear hi); obtain ⟨hcz17_0, hcz17_1, hfz17_0, hfz17_1⟩ := zce2 BK284.out; obtain ⟨hcz18_0, hcz18_1, hfz18_0, hfz18_1⟩ := zce2 BK285.out) | ((with_reducible refine gate_callee (f := 60) rfl ?_); refine goesL_ (some 19) rfl rfl Try.func60 zq3 rfl #[.agg #[.int .i64 a0_0, .int .i64 a0_1], .agg #[.int .i64 a1_0, .int .i64 a1_1]] rfl zq8 ?_; (with_reducible refine (bound_meet.calls a0_0 a0_1 a1_0 a1_1 t290 t291 true _ A5.out).mono ?_); rintro e w19 ⟨rfl, hb⟩; refine ⟨_, rfl, ?_⟩; replace HO288 := zrb HO288 hb; replace BK284 := zbb BK284 hb; replace BK285 := zbb BK285 hb; replace HB := zbs HB hb; (try clear hb); (try clear hb2); (try clear hk); (try clear hi)) | ((with_reducible refine gate_dst (N := 7) rfl ?_); refine box_event (by rfl) (N := 7) (by rfl) (cs := #[.int .i64 0, .int .i64 0]) (t := 27) zq1 ?_; intro gb293 hg w20 hbox hb; have BK293 := Aside0.mk (hbox); have GW293 := zgs HB hg; have GE293 := zgs HB hg; have NB284_293 := znp BK284 hg; have NB293_284 := znq BK284 hg; have NB285_293 := znp BK285 hg; have NB293_285 := znq BK285 hg; replace HO288 := Aside0.mk (Kd.R_below (Kd.R_elderB zq37 gb293 (Nat.le_of_eq hg.symm)) hb); replace BK284 := zbb BK284 hb; replace BK285 := zbb BK285 hb; replace HB := zbs HB hb; clear hb hbox hg; have hnb21 := NB293_284.out; have hnc21 := NB284_293.out; have hnb22 := NB293_285.out; have hnc22 := NB285_293.out; obtain ⟨hcz23_0, hcz23_1, hfz23_0, hfz23_1⟩ := zce2 BK293.out; obtain ⟨hcz24_0, hcz24_1, hfz24_0, hfz24_1⟩ := zce2 BK284.out))
    go_ret2
    exact ⟨zq2, zbz⟩
   ·rw [if_neg c7] at H
    have c7b0 : (t290 == a0_0 && (t291 == a0_1)) = false := by simpa using c7
    (try (have c7b1 : decide (t290 = a0_0 && (t291 == a0_1)) = false := by simpa using c7))
    (try (have c7b2 : (t290 == a0_0 && (t291 == a0_1)) = false := by simpa using c7))
    (try (have c7b3 : ¬ (t290 = a0_0 && (t291 == a0_1)) := by simpa using c7))
    clear c7
    simp only [Option.some.injEq, Prod.mk.injEq] at H
    obtain ⟨rfl, rfl⟩ := H
    go_enter Try.func45, Try.ntmps45
    go_wp2_with (first | ((with_reducible refine gate_dst (N := 2) rfl ?_); refine box_event (by rfl) (N := 2) (by rfl) (cs := #[.int .i64 a0_0, .int .i64 a0_1]) (t := 27) zq1 ?_; intro gb284 hg w25 hbox hb; have BK284 := Aside0.mk (hbox); have GW284 := zgs HB hg; have GE284 := zgs HB hg; replace HB := zbs HB hb; clear hb hbox hg) | ((with_reducible refine gate_dst (N := 3) rfl ?_); refine box_event (by rfl) (N := 3) (by rfl) (cs := #[.int .i64 a1_0, .int .i64 a1_1]) (t := 27) zq1 ?_; intro gb285 hg w26 hbox hb; have BK285 := Aside0.mk (hbox); have GW285 := zgs HB hg; have GE285 := zgs HB hg; have NB284_285 := znp BK284 hg; have NB285_284 := znq BK284 hg; replace BK284 := zbb BK284 hb; replace HB := zbs HB hb; clear hb hbox hg; have hnb27 := NB284_285.out; have hnc27 := NB285_284.out; obtain ⟨hcz28_0, hcz28_1, hfz28_0, hfz28_1⟩ := zce2 BK284.out; obtain ⟨hcz29_0, hcz29_1, hfz29_0, hfz29_1⟩ := zce2 BK285.out) | ((with_reducible refine gate_dst (N := 11) rfl ?_); refine Kd.R_lit k27 _ 27 (by rfl) (N := 11) (by rfl) (xs := ([(⟨a0_0, a0_1⟩ : S27), (⟨a1_0, a1_1⟩ : S27)] : List (S27))) (inner := [.int .i64 a0_0, .int .i64 a0_1, .int .i64 a1_0, .int .i64 a1_1]) (ok := fun _ => True) (okp := fun _ => True) zq1 zq9 (fun _ hk => hk) trivial (Below.refl _ _) (Nat.le_refl _) (by simp) ?_; intro v287 w30 ho31 hb hg_ hnew_; clear hg_ hnew_; (first | rw [← Ny286.out] at ho31 | (simp only [Int.reduceToNat] at ho31; rw [← Ny286.out] at ho31)); have HO288 := Aside0.mk (Kd.R_lower (Kd.R_newB (Kd.R_newB ho31 (g := gb284) (o := .cells #[.int .i64 a0_0, .int .i64 a0_1] 27 (0, 0)) zbf) (g := gb285) (o := .cells #[.int .i64 a1_0, .int .i64 a1_1] 27 (0, 0)) zbf) (below_size zbz)); replace BK284 := zbb BK284 hb; replace BK285 := zbb BK285 hb; replace HB := zbs HB hb; clear hb ho31; obtain ⟨Ao32, co32, eo32⟩ := Kd.R_slice HO288.out; subst eo32) | ((with_reducible refine gate_callee (f := 59) rfl ?_); refine goesL_ (some 12) rfl rfl Try.func59 zq3 rfl #[.slice Ao32 y286.length co32] rfl zq8 ?_; (with_reducible refine (bound_check.calls k _ _ y286 t289 _ ?side1 ?side2 A3.out).mono ?_); (case side1 => repeat (first | exact (Kd.R_reads' HO288.out).2.2 | (with_reducible refine Kd.C_alloc ?_ _) | (with_reducible refine Kd.C_drewN ?_ _) | (with_reducible refine Kd.C_drew ?_))); (case side2 => exact (Kd.R_reads' HO288.out).2.1); rintro e w33 ⟨rfl, hb⟩; refine ⟨_, rfl, ?_⟩; replace HO288 := zrb HO288 hb; replace BK284 := zbb BK284 hb; replace BK285 := zbb BK285 hb; replace HB := zbs HB hb; (try clear hb); (try clear hb2); (try clear hk); (try clear hi); obtain ⟨hcz34_0, hcz34_1, hfz34_0, hfz34_1⟩ := zce2 BK284.out; obtain ⟨hcz35_0, hcz35_1, hfz35_0, hfz35_1⟩ := zce2 BK285.out) | ((with_reducible refine gate_callee (f := 60) rfl ?_); refine goesL_ (some 19) rfl rfl Try.func60 zq3 rfl #[.agg #[.int .i64 a0_0, .int .i64 a0_1], .agg #[.int .i64 a1_0, .int .i64 a1_1]] rfl zq8 ?_; (with_reducible refine (bound_meet.calls a0_0 a0_1 a1_0 a1_1 t290 t291 true _ A5.out).mono ?_); rintro e w36 ⟨rfl, hb⟩; refine ⟨_, rfl, ?_⟩; replace HO288 := zrb HO288 hb; replace BK284 := zbb BK284 hb; replace BK285 := zbb BK285 hb; replace HB := zbs HB hb; (try clear hb); (try clear hb2); (try clear hk); (try clear hi)) | ((with_reducible refine gate_dst (N := 7) rfl ?_); refine box_event (by rfl) (N := 7) (by rfl) (cs := #[.int .i64 0, .int .i64 0]) (t := 27) zq1 ?_; intro gb293 hg w37 hbox hb; have BK293 := Aside0.mk (hbox); have GW293 := zgs HB hg; have GE293 := zgs HB hg; have NB284_293 := znp BK284 hg; have NB293_284 := znq BK284 hg; have NB285_293 := znp BK285 hg; have NB293_285 := znq BK285 hg; replace HO288 := Aside0.mk (Kd.R_below (Kd.R_elderB zq37 gb293 (Nat.le_of_eq hg.symm)) hb); replace BK284 := zbb BK284 hb; replace BK285 := zbb BK285 hb; replace HB := zbs HB hb; clear hb hbox hg; have hnb38 := NB293_284.out; have hnc38 := NB284_293.out; have hnb39 := NB293_285.out; have hnc39 := NB285_293.out; obtain ⟨hcz40_0, hcz40_1, hfz40_0, hfz40_1⟩ := zce2 BK293.out; obtain ⟨hcz41_0, hcz41_1, hfz41_0, hfz41_1⟩ := zce2 BK284.out))
    go_ret2
    exact ⟨zq2, zbz⟩
  ·replace c6 := Bool.eq_false_iff.mpr c6
   subst c6
   have H1 : (some (0, 0)) = some (r1, r2) := by rw [if_neg (show ¬ (false = true) by decide)] at H; exact H
   clear H
   have H := H1
   clear H1
   simp only [Option.some.injEq, Prod.mk.injEq] at H
   obtain ⟨rfl, rfl⟩ := H
   go_enter Try.func45, Try.ntmps45
   go_wp2_with (first | ((with_reducible refine gate_dst (N := 2) rfl ?_); refine box_event (by rfl) (N := 2) (by rfl) (cs := #[.int .i64 a0_0, .int .i64 a0_1]) (t := 27) zq1 ?_; intro gb284 hg w42 hbox hb; have BK284 := Aside0.mk (hbox); have GW284 := zgs HB hg; have GE284 := zgs HB hg; replace HB := zbs HB hb; clear hb hbox hg) | ((with_reducible refine gate_dst (N := 3) rfl ?_); refine box_event (by rfl) (N := 3) (by rfl) (cs := #[.int .i64 a1_0, .int .i64 a1_1]) (t := 27) zq1 ?_; intro gb285 hg w43 hbox hb; have BK285 := Aside0.mk (hbox); have GW285 := zgs HB hg; have GE285 := zgs HB hg; have NB284_285 := znp BK284 hg; have NB285_284 := znq BK284 hg; replace BK284 := zbb BK284 hb; replace HB := zbs HB hb; clear hb hbox hg; have hnb44 := NB284_285.out; have hnc44 := NB285_284.out; obtain ⟨hcz45_0, hcz45_1, hfz45_0, hfz45_1⟩ := zce2 BK284.out; obtain ⟨hcz46_0, hcz46_1, hfz46_0, hfz46_1⟩ := zce2 BK285.out) | ((with_reducible refine gate_dst (N := 11) rfl ?_); refine Kd.R_lit k27 _ 27 (by rfl) (N := 11) (by rfl) (xs := ([(⟨a0_0, a0_1⟩ : S27), (⟨a1_0, a1_1⟩ : S27)] : List (S27))) (inner := [.int .i64 a0_0, .int .i64 a0_1, .int .i64 a1_0, .int .i64 a1_1]) (ok := fun _ => True) (okp := fun _ => True) zq1 zq9 (fun _ hk => hk) trivial (Below.refl _ _) (Nat.le_refl _) (by simp) ?_; intro v287 w47 ho48 hb hg_ hnew_; clear hg_ hnew_; (first | rw [← Ny286.out] at ho48 | (simp only [Int.reduceToNat] at ho48; rw [← Ny286.out] at ho48)); have HO288 := Aside0.mk (Kd.R_lower (Kd.R_newB (Kd.R_newB ho48 (g := gb284) (o := .cells #[.int .i64 a0_0, .int .i64 a0_1] 27 (0, 0)) zbf) (g := gb285) (o := .cells #[.int .i64 a1_0, .int .i64 a1_1] 27 (0, 0)) zbf) (below_size zbz)); replace BK284 := zbb BK284 hb; replace BK285 := zbb BK285 hb; replace HB := zbs HB hb; clear hb ho48; obtain ⟨Ao49, co49, eo49⟩ := Kd.R_slice HO288.out; subst eo49) | ((with_reducible refine gate_callee (f := 59) rfl ?_); refine goesL_ (some 12) rfl rfl Try.func59 zq3 rfl #[.slice Ao49 y286.length co49] rfl zq8 ?_; (with_reducible refine (bound_check.calls k _ _ y286 t289 _ ?side1 ?side2 A3.out).mono ?_); (case side1 => repeat (first | exact (Kd.R_reads' HO288.out).2.2 | (with_reducible refine Kd.C_alloc ?_ _) | (with_reducible refine Kd.C_drewN ?_ _) | (with_reducible refine Kd.C_drew ?_))); (case side2 => exact (Kd.R_reads' HO288.out).2.1); rintro e w50 ⟨rfl, hb⟩; refine ⟨_, rfl, ?_⟩; replace HO288 := zrb HO288 hb; replace BK284 := zbb BK284 hb; replace BK285 := zbb BK285 hb; replace HB := zbs HB hb; (try clear hb); (try clear hb2); (try clear hk); (try clear hi); obtain ⟨hcz51_0, hcz51_1, hfz51_0, hfz51_1⟩ := zce2 BK284.out; obtain ⟨hcz52_0, hcz52_1, hfz52_0, hfz52_1⟩ := zce2 BK285.out) | ((with_reducible refine gate_callee (f := 60) rfl ?_); refine goesL_ (some 19) rfl rfl Try.func60 zq3 rfl #[.agg #[.int .i64 a0_0, .int .i64 a0_1], .agg #[.int .i64 a1_0, .int .i64 a1_1]] rfl zq8 ?_; (with_reducible refine (bound_meet.calls a0_0 a0_1 a1_0 a1_1 t290 t291 false _ A5.out).mono ?_); rintro e w53 ⟨rfl, hb⟩; refine ⟨_, rfl, ?_⟩; replace HO288 := zrb HO288 hb; replace BK284 := zbb BK284 hb; replace BK285 := zbb BK285 hb; replace HB := zbs HB hb; (try clear hb); (try clear hb2); (try clear hk); (try clear hi)) | ((with_reducible refine gate_dst (N := 7) rfl ?_); refine box_event (by rfl) (N := 7) (by rfl) (cs := #[.int .i64 0, .int .i64 0]) (t := 27) zq1 ?_; intro gb293 hg w54 hbox hb; have BK293 := Aside0.mk (hbox); have GW293 := zgs HB hg; have GE293 := zgs HB hg; have NB284_293 := znp BK284 hg; have NB293_284 := znq BK284 hg; have NB285_293 := znp BK285 hg; have NB293_285 := znq BK285 hg; replace HO288 := Aside0.mk (Kd.R_below (Kd.R_elderB zq37 gb293 (Nat.le_of_eq hg.symm)) hb); replace BK284 := zbb BK284 hb; replace BK285 := zbb BK285 hb; replace HB := zbs HB hb; clear hb hbox hg; have hnb55 := NB293_284.out; have hnc55 := NB284_293.out; have hnb56 := NB293_285.out; have hnc56 := NB285_293.out; obtain ⟨hcz57_0, hcz57_1, hfz57_0, hfz57_1⟩ := zce2 BK293.out))
   go_ret2
   exact ⟨zq2, zbz⟩
 ·rw [if_neg c4] at H
  have c4b0 : (t289 == 0) = false := beq_eq_false_iff_ne.mpr c4
  have c4b1 : (t289 != 0) = true := bne_iff_ne.mpr c4
  simp only [Option.some.injEq, Prod.mk.injEq] at H
  obtain ⟨rfl, rfl⟩ := H
  go_enter Try.func45, Try.ntmps45
  go_wp2_with (first | ((with_reducible refine gate_dst (N := 2) rfl ?_); refine box_event (by rfl) (N := 2) (by rfl) (cs := #[.int .i64 a0_0, .int .i64 a0_1]) (t := 27) zq1 ?_; intro gb284 hg w58 hbox hb; have BK284 := Aside0.mk (hbox); have GW284 := zgs HB hg; have GE284 := zgs HB hg; replace HB := zbs HB hb; clear hb hbox hg) | ((with_reducible refine gate_dst (N := 3) rfl ?_); refine box_event (by rfl) (N := 3) (by rfl) (cs := #[.int .i64 a1_0, .int .i64 a1_1]) (t := 27) zq1 ?_; intro gb285 hg w59 hbox hb; have BK285 := Aside0.mk (hbox); have GW285 := zgs HB hg; have GE285 := zgs HB hg; have NB284_285 := znp BK284 hg; have NB285_284 := znq BK284 hg; replace BK284 := zbb BK284 hb; replace HB := zbs HB hb; clear hb hbox hg; have hnb60 := NB284_285.out; have hnc60 := NB285_284.out; obtain ⟨hcz61_0, hcz61_1, hfz61_0, hfz61_1⟩ := zce2 BK284.out; obtain ⟨hcz62_0, hcz62_1, hfz62_0, hfz62_1⟩ := zce2 BK285.out) | ((with_reducible refine gate_dst (N := 11) rfl ?_); refine Kd.R_lit k27 _ 27 (by rfl) (N := 11) (by rfl) (xs := ([(⟨a0_0, a0_1⟩ : S27), (⟨a1_0, a1_1⟩ : S27)] : List (S27))) (inner := [.int .i64 a0_0, .int .i64 a0_1, .int .i64 a1_0, .int .i64 a1_1]) (ok := fun _ => True) (okp := fun _ => True) zq1 zq9 (fun _ hk => hk) trivial (Below.refl _ _) (Nat.le_refl _) (by simp) ?_; intro v287 w63 ho64 hb hg_ hnew_; clear hg_ hnew_; (first | rw [← Ny286.out] at ho64 | (simp only [Int.reduceToNat] at ho64; rw [← Ny286.out] at ho64)); have HO288 := Aside0.mk (Kd.R_lower (Kd.R_newB (Kd.R_newB ho64 (g := gb284) (o := .cells #[.int .i64 a0_0, .int .i64 a0_1] 27 (0, 0)) zbf) (g := gb285) (o := .cells #[.int .i64 a1_0, .int .i64 a1_1] 27 (0, 0)) zbf) (below_size zbz)); replace BK284 := zbb BK284 hb; replace BK285 := zbb BK285 hb; replace HB := zbs HB hb; clear hb ho64; obtain ⟨Ao65, co65, eo65⟩ := Kd.R_slice HO288.out; subst eo65) | ((with_reducible refine gate_callee (f := 59) rfl ?_); refine goesL_ (some 12) rfl rfl Try.func59 zq3 rfl #[.slice Ao65 y286.length co65] rfl zq8 ?_; (with_reducible refine (bound_check.calls k _ _ y286 t289 _ ?side1 ?side2 A3.out).mono ?_); (case side1 => repeat (first | exact (Kd.R_reads' HO288.out).2.2 | (with_reducible refine Kd.C_alloc ?_ _) | (with_reducible refine Kd.C_drewN ?_ _) | (with_reducible refine Kd.C_drew ?_))); (case side2 => exact (Kd.R_reads' HO288.out).2.1); rintro e w66 ⟨rfl, hb⟩; refine ⟨_, rfl, ?_⟩; replace HO288 := zrb HO288 hb; replace BK284 := zbb BK284 hb; replace BK285 := zbb BK285 hb; replace HB := zbs HB hb; (try clear hb); (try clear hb2); (try clear hk); (try clear hi)))
  go_ret2
  exact ⟨zq2, zbz⟩

end Go.Proofs.Ythglkoddmpicdaa.Pr
end
section
/- Is a box in another one, and are boxes valid: what the program answers. -/
namespace Go.Proofs.Ythglkoddmpicdaa.Gl
open Go.RowKit Go.Shelf Go.Proofs.YthglkoddmpicdaaW.PrintWords Go.Proofs.YthglkoddmpicdaaW.PrintLast Go.Proofs.YthglkoddmpicdaaW.PrintMore Go.Proofs.Ythglkoddmpicdaa.Pr Go.Proofs.YthglkoddmpicdaaW.Round
set_option linter.unusedVariables false
set_option linter.unusedSimpArgs false
attribute [local go_sem] max2_int min2_int max_two min_two max_four
/-- Is a span in another one? -/
def inI (a b : S27) : Int := if (okS a.f0 a.f1 && okS b.f0 b.f1) = true then (if max a.f0 b.f0 ≤ min a.f1 b.f1 then (if b.f0 ≤ a.f0 ∧ a.f1 ≤ b.f1 then 2 else 1) else 0) else 0
def inE (a b : S27) : Int := if (okS a.f0 a.f1 && okS b.f0 b.f1) = true then 0 else 2
theorem in_some (a b : S27) : bound_In.f 3 a.f0 a.f1 b.f0 b.f1 = some (inI a b, inE a b) := by
 unfold bound_In.f inI inE
 rw [check_two 0, Option.bind_some]
 cases h : (okS a.f0 a.f1 && okS b.f0 b.f1) with
 | false => rfl
 | true =>
  rw [if_pos rfl, if_pos rfl, if_pos rfl]
  unfold bound_meet.f
  rw [Option.bind_some]
  dsimp only
  have e1 : mx a.f0 b.f0 = max a.f0 b.f0 := mx_max' _ _
  have e2 : mn a.f1 b.f1 = min a.f1 b.f1 := mn_min' _ _
  rw [e1, e2]
  by_cases h1 : max a.f0 b.f0 ≤ min a.f1 b.f1
  ·rw [if_pos h1, if_pos (decide_eq_true h1)]
   by_cases h2 : b.f0 ≤ a.f0 ∧ a.f1 ≤ b.f1
   ·rw [if_pos h2, if_pos]
    rw [Bool.and_eq_true, beq_iff_eq, beq_iff_eq]
    omega
   ·rw [if_neg h2, if_neg]
    rw [Bool.and_eq_true, beq_iff_eq, beq_iff_eq]
    omega
  ·rw [if_neg h1, if_neg (by rw [decide_eq_false h1]; decide)]
theorem inI_two (a b : S27) : 0 ≤ inI a b ∧ inI a b ≤ 2 := by
 unfold inI
 split
 ·split
  ·split <;> decide
  ·decide
 ·decide
set_option maxRecDepth 100000 in
set_option maxHeartbeats 2000000 in
theorem one_any (a b : S27) (w : World) : Calls Try.prog 127 #[.func (.func 45) #[] #[], .agg #[.int .i64 a.f0, .int .i64 a.f1], .agg #[.int .i64 b.f0, .int .i64 b.f1]] w (RetB (.int .i64 (inI a b)) w) := by
 have hu27 := Try.underlying27
 have eg : ∀ args w, (callFunc 45 args).run Try.prog w = .ok (.enter 45 args) w := enters_of Try.func45 zq3 rfl
 have hcon := fun W => bound_In.calls 3 a.f0 a.f1 b.f0 b.f1 _ _ W (in_some a b)
 generalize inI a b = r at *
 generalize inE a b = r2 at *
 go_enter Try.func127, Try.ntmps127
 go_wp2_with fail
 have m4 : Blk ((w.alloc (.cells #[.int .i64 a.f0, .int .i64 a.f1] 27)).alloc (.cells #[.int .i64 b.f0, .int .i64 b.f1] 27)) (w.heap.size) #[.int .i64 a.f0, .int .i64 a.f1] 27 := (blk_alloc zq22 _)
 have m5 : Blk ((w.alloc (.cells #[.int .i64 a.f0, .int .i64 a.f1] 27)).alloc (.cells #[.int .i64 b.f0, .int .i64 b.f1] 27)) (w.heap.size + 1) #[.int .i64 b.f0, .int .i64 b.f1] 27 := (by have h_ := blk_new (w.alloc (.cells #[.int .i64 a.f0, .int .i64 a.f1] 27)) (.cells #[.int .i64 b.f0, .int .i64 b.f1] 27); first | exact h_ | (simp only [World.size_alloc] at h_; exact h_))
 have mB : Below w.heap.size w ((w.alloc (.cells #[.int .i64 a.f0, .int .i64 a.f1] 27)).alloc (.cells #[.int .i64 b.f0, .int .i64 b.f1] 27)) := (below_alloc (below_alloc (Below.refl w.heap.size w) _) _)
 have hsz_ : w.heap.size ≤ w.heap.size := Nat.le_refl _
 generalize hW_ : ((w.alloc (.cells #[.int .i64 a.f0, .int .i64 a.f1] 27)).alloc (.cells #[.int .i64 b.f0, .int .i64 b.f1] 27)) = W1 at m4 m5 mB ⊢
 clear hW_
 generalize hg4 : w.heap.size = g4 at m4 m5 ⊢
 have hG4 : w.heap.size ≤ g4 := by omega
 generalize hg5 : g4 + 1 = g5 at m5 ⊢
 have hn_4_5 : g4 ≠ g5 := by omega
 have hn_5_4 : g5 ≠ g4 := hn_4_5.symm
 have hG5 : w.heap.size ≤ g5 := by omega
 clear hsz_
 try clear hg5
 try clear hg4
 have hs_W1 : w.heap.size ≤ W1.heap.size := mB.size
 obtain ⟨c4_0, c4_1⟩ := zcs2 m4
 obtain ⟨c5_0, c5_1⟩ := zcs2 m5
 go_wp2_with fail
 clear c4_0 c4_1 c5_0 c5_1
 have hc1 := hcon W1
 (with_reducible refine hc1.mono ?_)
 clear hc1 hcon
 rintro e W2 ⟨rfl, hb⟩
 replace m4 := blk_below m4 hb
 replace m5 := blk_below m5 hb
 replace mB := below_step mB hb
 clear hb
 go_wp2
 go_ret
 exact ⟨rfl, mB⟩
/-- Is a box in another one? -/
def insI (x y : S29) : Int := min (inI x.f0 y.f0) (inI x.f1 y.f1)
set_option maxRecDepth 100000 in
set_option maxHeartbeats 2000000 in
theorem inside_any (x y : S29) (w : World) : Calls Try.prog 72 #[.agg #[.int .i64 x.f0.f0, .int .i64 x.f0.f1, .int .i64 x.f1.f0, .int .i64 x.f1.f1], .agg #[.int .i64 y.f0.f0, .int .i64 y.f0.f1, .int .i64 y.f1.f0, .int .i64 y.f1.f1]] w (RetB (.int .i64 (insI x y)) w) := by
 have hu29 := Try.underlying29
 have hu27 := Try.underlying27
 have k0 := fun W => one_any x.f0 y.f0 W
 have k1 := fun W => one_any x.f1 y.f1 W
 have HR : Hid (insI x y = min (inI x.f0 y.f0) (inI x.f1 y.f1)) := Lib.hid rfl
 generalize inI x.f0 y.f0 = r0 at *
 generalize inI x.f1 y.f1 = r1 at *
 go_enter Try.func72, Try.ntmps72
 go_wp2_with fail
 have m2 : Blk ((w.alloc (.cells #[.int .i64 x.f0.f0, .int .i64 x.f0.f1, .int .i64 x.f1.f0, .int .i64 x.f1.f1] 29)).alloc (.cells #[.int .i64 y.f0.f0, .int .i64 y.f0.f1, .int .i64 y.f1.f0, .int .i64 y.f1.f1] 29)) (w.heap.size) #[.int .i64 x.f0.f0, .int .i64 x.f0.f1, .int .i64 x.f1.f0, .int .i64 x.f1.f1] 29 := (blk_alloc zq27 _)
 have m3 : Blk ((w.alloc (.cells #[.int .i64 x.f0.f0, .int .i64 x.f0.f1, .int .i64 x.f1.f0, .int .i64 x.f1.f1] 29)).alloc (.cells #[.int .i64 y.f0.f0, .int .i64 y.f0.f1, .int .i64 y.f1.f0, .int .i64 y.f1.f1] 29)) (w.heap.size + 1) #[.int .i64 y.f0.f0, .int .i64 y.f0.f1, .int .i64 y.f1.f0, .int .i64 y.f1.f1] 29 := (by have h_ := blk_new (w.alloc (.cells #[.int .i64 x.f0.f0, .int .i64 x.f0.f1, .int .i64 x.f1.f0, .int .i64 x.f1.f1] 29)) (.cells #[.int .i64 y.f0.f0, .int .i64 y.f0.f1, .int .i64 y.f1.f0, .int .i64 y.f1.f1] 29); first | exact h_ | (simp only [World.size_alloc] at h_; exact h_))
 have mB : Below w.heap.size w ((w.alloc (.cells #[.int .i64 x.f0.f0, .int .i64 x.f0.f1, .int .i64 x.f1.f0, .int .i64 x.f1.f1] 29)).alloc (.cells #[.int .i64 y.f0.f0, .int .i64 y.f0.f1, .int .i64 y.f1.f0, .int .i64 y.f1.f1] 29)) := (below_alloc (below_alloc (Below.refl w.heap.size w) _) _)
 have hsz_ : w.heap.size ≤ w.heap.size := Nat.le_refl _
 generalize hW_ : ((w.alloc (.cells #[.int .i64 x.f0.f0, .int .i64 x.f0.f1, .int .i64 x.f1.f0, .int .i64 x.f1.f1] 29)).alloc (.cells #[.int .i64 y.f0.f0, .int .i64 y.f0.f1, .int .i64 y.f1.f0, .int .i64 y.f1.f1] 29)) = W1 at m2 m3 mB ⊢
 clear hW_
 generalize hg2 : w.heap.size = g2 at m2 m3 ⊢
 have hG2 : w.heap.size ≤ g2 := by omega
 generalize hg3 : g2 + 1 = g3 at m3 ⊢
 have hn_2_3 : g2 ≠ g3 := by omega
 have hn_3_2 : g3 ≠ g2 := hn_2_3.symm
 have hG3 : w.heap.size ≤ g3 := by omega
 clear hsz_
 try clear hg3
 try clear hg2
 have hs_W1 : w.heap.size ≤ W1.heap.size := mB.size
 replace m2 := blk_drew m2
 replace m3 := blk_drew m3
 replace mB := below_drew1 mB
 refine start_ (n := 12) (S := fun w' => w'.cell? ⟨g2, 0, none⟩ = some (.int .i64 x.f0.f0) ∧ w'.cell? ⟨g2, 1, none⟩ = some (.int .i64 x.f0.f1) ∧ w'.cell? ⟨g2, 2, none⟩ = some (.int .i64 x.f1.f0) ∧ w'.cell? ⟨g2, 3, none⟩ = some (.int .i64 x.f1.f1) ∧ w'.cell? ⟨g3, 0, none⟩ = some (.int .i64 y.f0.f0) ∧ w'.cell? ⟨g3, 1, none⟩ = some (.int .i64 y.f0.f1) ∧ w'.cell? ⟨g3, 2, none⟩ = some (.int .i64 y.f1.f0) ∧ w'.cell? ⟨g3, 3, none⟩ = some (.int .i64 y.f1.f1)) (ds := []) #[false, false, false, false, false, false, false, false, false, false, false, false] zq3 rfl rfl ⟨((blk_cell m2 0).trans rfl), ((blk_cell m2 1).trans rfl), ((blk_cell m2 2).trans rfl), ((blk_cell m2 3).trans rfl), ((blk_cell m3 0).trans rfl), ((blk_cell m3 1).trans rfl), ((blk_cell m3 2).trans rfl), ((blk_cell m3 3).trans rfl)⟩ (fun hHeld => ?_)
 generalize hWd : World.drew _ = Wx at m2 m3 mB hHeld ⊢
 clear hWd
 refine zpz (i := 0) (N := some 5) zq3 ?_
 refine zpz (i := 2) (N := some 7) zq3 ?_
 refine zpz (i := 5) (N := some 10) zq3 ?_
 refine zpz (i := 7) (N := some 12) zq3 ?_
 refine ztz (i := 1) (N := some 6) zq3 hHeld ?_
 refine ztz (i := 3) (N := some 8) zq3 hHeld ?_
 refine ztz (i := 6) (N := some 11) zq3 hHeld ?_
 refine ztz (i := 8) (N := some 13) zq3 hHeld ?_
 refine one_ (i := 4) (N := some 9) #[true, true, true, true, true, true, true, true, true, false, false, false] rfl rfl zq3 (by decide) (fun K hK => ?_)
 have hcon_ := k0 Wx
 refine goes_ Try.func127 zq3 rfl #[.func (.func 45) #[] #[], .agg #[.int .i64 x.f0.f0, .int .i64 x.f0.f1], .agg #[.int .i64 y.f0.f0, .int .i64 y.f0.f1]] (by rfl) rfl rfl zq24 ?_
 with_reducible refine (hcon_).mono ?_
 rintro e w4 ⟨rfl, hb⟩
 refine ⟨_, rfl, ?_⟩
 clear hcon_
 replace m2 := blk_below m2 hb
 replace m3 := blk_below m3 hb
 replace mB := below_step mB hb
 clear hb
 refine hK.out _ _ ⟨((blk_cell m2 0).trans rfl), ((blk_cell m2 1).trans rfl), ((blk_cell m2 2).trans rfl), ((blk_cell m2 3).trans rfl), ((blk_cell m3 0).trans rfl), ((blk_cell m3 1).trans rfl), ((blk_cell m3 2).trans rfl), ((blk_cell m3 3).trans rfl)⟩ (fun hHeld => ?_)
 clear hK K
 refine norm_ zq23 ?_
 refine one_ (i := 9) (N := some 14) #[true, true, true, true, true, true, true, true, true, true, false, false] rfl rfl zq3 (by decide) (fun K hK => ?_)
 have hcon_ := k1 w4
 refine goes_ Try.func127 zq3 rfl #[.func (.func 45) #[] #[], .agg #[.int .i64 x.f1.f0, .int .i64 x.f1.f1], .agg #[.int .i64 y.f1.f0, .int .i64 y.f1.f1]] (by rfl) rfl rfl zq24 ?_
 with_reducible refine (hcon_).mono ?_
 rintro e w9 ⟨rfl, hb⟩
 refine ⟨_, rfl, ?_⟩
 clear hcon_
 replace m2 := blk_below m2 hb
 replace m3 := blk_below m3 hb
 replace mB := below_step mB hb
 clear hb
 refine hK.out _ _ ⟨((blk_cell m2 0).trans rfl), ((blk_cell m2 1).trans rfl), ((blk_cell m2 2).trans rfl), ((blk_cell m2 3).trans rfl), ((blk_cell m3 0).trans rfl), ((blk_cell m3 1).trans rfl), ((blk_cell m3 2).trans rfl), ((blk_cell m3 3).trans rfl)⟩ (fun hHeld => ?_)
 clear hK K
 refine norm_ (by show Act.put _ (some 14) _ = _; simp only [Act.put, List.setIfInBounds_toArray, List.set_cons_zero, List.set_cons_succ, i64_w, i32_w]; rfl) ?_
 refine zpz (i := 10) (N := some 15) zq3 ?_
 refine zpz (i := 11) (N := some 4) zq3 ?_
 refine done_ zq3 ?_
 go_wp2
 all_goals (go_ret; first | (have hm : insI x y = r0 := (by rw [HR.out]; omega); exact ⟨by rw [hm]; rfl, mB⟩) | (have hm : insI x y = r1 := (by rw [HR.out]; omega); exact ⟨by rw [hm]; rfl, mB⟩))

/-- What is wrong with boxes? -/
def boxesE (l : List S29) : Int := if l.length > 64 then 6 else if l.any (fun x => !boxB x) then 2 else 0
set_option maxRecDepth 100000 in
set_option maxHeartbeats 2000000 in
theorem cb1_any (x : S29) (w : World) : Calls Try.prog 123 #[.agg #[.int .i64 x.f0.f0, .int .i64 x.f0.f1, .int .i64 x.f1.f0, .int .i64 x.f1.f1]] w (RetB (.bool (!boxB x)) w) := by
 have hu29 := Try.underlying29
 have hu27 := Try.underlying27
 have k0 := fun W => box_any x W
 have HE : Hid (boxE x = if boxB x then 0 else 2) := Lib.hid rfl
 go_enter Try.func123, Try.ntmps123
 go_wp2_with fail
 have m1 : Blk (w.alloc (.cells #[.int .i64 x.f0.f0, .int .i64 x.f0.f1, .int .i64 x.f1.f0, .int .i64 x.f1.f1] 29)) (w.heap.size) #[.int .i64 x.f0.f0, .int .i64 x.f0.f1, .int .i64 x.f1.f0, .int .i64 x.f1.f1] 29 := zq27
 have mB : Below w.heap.size w (w.alloc (.cells #[.int .i64 x.f0.f0, .int .i64 x.f0.f1, .int .i64 x.f1.f0, .int .i64 x.f1.f1] 29)) := (below_alloc (Below.refl w.heap.size w) _)
 have hsz_ : w.heap.size ≤ w.heap.size := Nat.le_refl _
 generalize hW_ : (w.alloc (.cells #[.int .i64 x.f0.f0, .int .i64 x.f0.f1, .int .i64 x.f1.f0, .int .i64 x.f1.f1] 29)) = W1 at m1 mB ⊢
 clear hW_
 generalize hg1 : w.heap.size = g1 at m1 ⊢
 have hG1 : w.heap.size ≤ g1 := by omega
 clear hsz_
 try clear hg1
 have hs_W1 : w.heap.size ≤ W1.heap.size := mB.size
 obtain ⟨c1_0, c1_1, c1_2, c1_3⟩ := zcs4 m1
 go_wp2_with fail
 clear c1_0 c1_1 c1_2 c1_3
 have hcon := k0 W1
 (with_reducible refine hcon.mono ?_)
 clear hcon
 rintro e W2 ⟨rfl, hb⟩
 replace m1 := blk_below m1 hb
 replace mB := below_step mB hb
 clear hb
 have hs_W2 : w.heap.size ≤ W2.heap.size := mB.size
 cases h : boxB x with
 | true =>
  have HZ : Hid (boxE x = 0) := Lib.hid (by rw [HE.out, h]; rfl)
  have HB := Lib.hid h
  clear h HE k0
  generalize boxE x = E at *
  have hz := HZ.out
  subst hz
  go_wp2
  go_ret
  exact ⟨by rw [HB.out]; rfl, mB⟩
 | false =>
  have HZ : Hid (boxE x = 2) := Lib.hid (by rw [HE.out, h]; rfl)
  have HB := Lib.hid h
  clear h HE k0
  generalize boxE x = E at *
  have hz := HZ.out
  subst hz
  go_wp2
  go_ret
  exact ⟨by rw [HB.out]; rfl, mB⟩
set_option maxRecDepth 100000 in
set_option maxHeartbeats 2000000 in
theorem boxes_any (A : Option Addr) (c : Nat) (l : List S29) (w : World) (hC : Kd.C k29 w A l.length l) (hc : l.length ≤ c) : Calls Try.prog 64 #[.slice A l.length c] w (RetB (.int .i64 (boxesE l)) w) := by
 have hu29 := Try.underlying29
 have hu27 := Try.underlying27
 have hb := hC.2.1
 have HR : Hid (boxesE l = if l.length > 64 then 6 else if l.any (fun x => !boxB x) then 2 else 0) := Lib.hid rfl
 by_cases h : l.length > 64
 ·have hd : decide (64 < (l.length : Int)) = true := decide_eq_true (by omega)
  have HZ := Lib.hid (HR.out.trans (if_pos h))
  clear h HR
  go_enter Try.func64, Try.ntmps64
  go_wp2
  go_ret
  exact ⟨zq21, Below.refl _ _⟩
 ·have hd : decide (64 < (l.length : Int)) = false := decide_eq_false (by omega)
  have HZ := Lib.hid (HR.out.trans (if_neg h))
  have hcon := fun W (hW : Below w.heap.size w W) => cont29_any 123 #[] (fun x => !boxB x) A c l W (Kd.C_below hC hW) hc (enters_of Try.func123 zq3 rfl) (fun x W _ => cb1_any x W)
  generalize l.any (fun x => !boxB x) = r at *
  clear h HR
  go_enter Try.func64, Try.ntmps64
  go_wp2_with fail
  (with_reducible refine (hcon _ (Below.refl _ _)).mono ?_)
  clear hcon
  rintro e W1 ⟨rfl, mB⟩
  cases r
  ·go_wp2
   go_ret
   exact ⟨zq21, mB⟩
  ·go_wp2
   go_ret
   exact ⟨zq21, mB⟩
end Go.Proofs.Ythglkoddmpicdaa.Gl
end
section
/- The contracts of exported functions, as the printed texts ask for them. -/
namespace Go.Proofs.Ythglkoddmpicdaa.Pr
open Go.RowKit Go.Proofs.YthglkoddmpicdaaW.PrintWords Go.Proofs.YthglkoddmpicdaaW.PrintLast Go.Proofs.YthglkoddmpicdaaW.PrintMore Go.Proofs.Ythglkoddmpicdaa.Gl
set_option linter.unusedVariables false
def glider_inside.f (a0_0 : Int) (a0_1 : Int) (a0_2 : Int) (a0_3 : Int) (a1_0 : Int) (a1_1 : Int) (a1_2 : Int) (a1_3 : Int) : Option (Int) := some (insI ⟨⟨a0_0, a0_1⟩, ⟨a0_2, a0_3⟩⟩ ⟨⟨a1_0, a1_1⟩, ⟨a1_2, a1_3⟩⟩)
theorem glider_inside.calls (a0_0 : Int) (a0_1 : Int) (a0_2 : Int) (a0_3 : Int) (a1_0 : Int) (a1_1 : Int) (a1_2 : Int) (a1_3 : Int) (r : Int) (w : World) (h : glider_inside.f a0_0 a0_1 a0_2 a0_3 a1_0 a1_1 a1_2 a1_3 = some r) :
  Calls Try.prog 72 #[.agg #[.int .i64 a0_0, .int .i64 a0_1, .int .i64 a0_2, .int .i64 a0_3], .agg #[.int .i64 a1_0, .int .i64 a1_1, .int .i64 a1_2, .int .i64 a1_3]] w fun e w' => e = .returned (.int .i64 r) ∧ Below w.heap.size w w' := by
 cases h
 exact inside_any ⟨⟨a0_0, a0_1⟩, ⟨a0_2, a0_3⟩⟩ ⟨⟨a1_0, a1_1⟩, ⟨a1_2, a1_3⟩⟩ w
end Go.Proofs.Ythglkoddmpicdaa.Pr
end
