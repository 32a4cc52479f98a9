/- Part 2 of the proof of ClockMore: what the functions compute. No condition. -/
import Derived.RangeFuncNested
import Derived.RangeFuncBound
import Derived.RangeFuncCalls
import Derived.RangeFuncLeaves
import Derived.Shelf.Abstract
import Derived.Shelf.RegionOpen
import Derived.WalkKit
import Derived.OwnWalkIn
import Derived.TacticsInMore
import Derived.LoopNIn
import Derived.LoopIn
import Derived.Lib.Hide
import Derived.Test.YtcjdhajdoikojaaDmClockMore1
section
/- The common part of spans, as the program computes it over an iterator: the greatest of the lower ends, the least of the upper ones. -/
namespace Go.Proofs.Ytcjdhajdoikojaa.Clk
open Go.RowKit Go.Shelf Go.Proofs.YtcjdhajdoikojaaW.PrintWords Go.Proofs.YtcjdhajdoikojaaW.PrintLast Go.Proofs.YtcjdhajdoikojaaW.PrintMore Go.Proofs.Ytcjdhajdoikojaa.Pr Go.Proofs.YtcjdhajdoikojaaW.Round
set_option linter.unusedVariables false
set_option linter.unusedSimpArgs false
attribute [local go_sem] Oper.semAt_some
attribute [local go_sem] max2_int min2_int max_two min_two
/-- A block of memory, whole. -/
def Blk (W : World) (b : Nat) (c : Array Value) (t : TypeId) : Prop := W.heap[b]? = some (.cells c t (0, 0))
def meetF (l : List S35) : Int × Int := l.foldl (fun o a => (mx o.1 a.f0, mn o.2 a.f1)) (-9223372036854775808, 9223372036854775807)
theorem blk_grown {B b : Nat} {c : Array Value} {t : TypeId} {X Y : World} {row : Option Nat} (hs : Blk X b c t) (hg : X.grownBy Y row) (hr : ∀ r, row = some r → B ≤ r ∧ ∃ o : Obj, X.heap[r]? = some o ∧ o.isCells = false) : Blk Y b c t :=
  (hg.block b (Array.getElem?_eq_some_iff.1 hs).1 (fun e => by obtain ⟨_, o, ho, hc⟩ := hr b e.symm; rw [show X.heap[b]? = _ from hs] at ho; cases ho; cases hc)).trans hs
theorem Blk.below {W W1 : World} {b : Nat} {c : Array Value} {t : TypeId} (h : Blk W b c t) (hb : Below W.heap.size W W1) : Blk W1 b c t := (hb.block b (Array.getElem?_eq_some_iff.1 h).1).trans h
theorem keepsFrom_below {B : Nat} {W W1 : World} (hb : Below W.heap.size W W1) : KeepsFrom B W W1 :=
  ⟨hb.size, fun k o _ h0 _ => (hb.block k (Array.getElem?_eq_some_iff.1 h0).1).trans h0⟩
theorem keepsFrom_set2 (B : Nat) (W : World) (g i j : Nat) (u v : Value) : KeepsFrom B W ((W.setCell ⟨g, i, none⟩ u).setCell ⟨g, j, none⟩ v) := (KeepsOthers.trans (KeepsOthers.setCell _ _ _) (KeepsOthers.setCell _ _ _)).from _
theorem blk_ownFrom {β : Type} (B b : Nat) (f : β → Array Value) (t : TypeId) : OwnFrom B (fun s W => Blk W b (f s) t) := fun s X Y row hs hg hr => blk_grown hs hg hr
theorem blk_new3 (w : World) (o0 o1 o2 : Obj) : (((w.alloc o0).alloc o1).alloc o2).heap[w.heap.size]? = some o0 ∧ (((w.alloc o0).alloc o1).alloc o2).heap[w.heap.size + 1]? = some o1 ∧ (((w.alloc o0).alloc o1).alloc o2).heap[w.heap.size + 1 + 1]? = some o2 := by
  have h1 := World.alloc_heap_new (w.alloc o0) o1
  have h2 := World.alloc_heap_new ((w.alloc o0).alloc o1) o2
  rw [World.size_alloc] at h1 h2
  rw [World.size_alloc] at h2
  refine ⟨(Below.heap_alloc _ _ _ (by simp; omega)).trans ((Below.heap_alloc _ _ _ (by simp)).trans (World.alloc_heap_new w o0)), (Below.heap_alloc _ _ _ (by simp)).trans h1, h2⟩
theorem meetF_snoc (l : List S35) (a : S35) : meetF (l ++ [a]) = (mx (meetF l).1 a.f0, mn (meetF l).2 a.f1) := by simp [meetF]

set_option maxRecDepth 100000 in
set_option maxHeartbeats 4000000 in
theorem meet35_any (gf gs : Nat) (lb lbs : Array Value) (w : World) (xs : List S35) (g : S35 → S35)
    (egf : ∀ args w, (callFunc gf args).run Try.prog w = .ok (.enter gf args) w) (egs : ∀ args w, (callFunc gs args).run Try.prog w = .ok (.enter gs args) w)
    (hseq : ∀ W, Below w.heap.size w W → SeqStopsK Fence.wide 5 Try.prog gf lb (fun x : S35 => #[enc35 x]) (Below w.heap.size) (fun ys => ys = xs) (fun pre => pre <+: xs) xs.length W)
    (hspan : ∀ x W, Below w.heap.size w W → Calls Try.prog gs (#[enc35 x] ++ lbs) W fun e W' => e = .returned (enc35 (g x)) ∧ Below W.heap.size W W') :
    Calls Try.prog 83 #[.func (.func gf) #[] lb, .func (.func gs) #[] lbs] w fun e w' => e = .returned (.tuple #[.agg #[.int .i64 (meetF (xs.map g)).1, .int .i64 (meetF (xs.map g)).2], .bool (decide ((meetF (xs.map g)).1 ≤ (meetF (xs.map g)).2))]) ∧ Below w.heap.size w w' := by
  have hu35 := Try.underlying35
  have hu35 := Try.underlying35
  refine (callsIn_wide (n := 6)).1 ?_
  refine callsIn_of_wp_marks Try.func83 rfl trivial ?_ rfl
  simp only [Try.ntmps83, List.size_toArray, List.length_cons, List.length_nil, Nat.reduceAdd, Nat.reduceSub, Array.replicate_succ, Array.replicate_zero, List.push_toArray, List.append_toArray, List.nil_append, List.cons_append]
  gi_wp2
  have hB0 : Below w.heap.size w (((w.alloc (.cells #[.func (.func gs) #[] lbs] 135)).alloc (.cells #[.int .i64 0, .int .i64 0] 35)).alloc (.cells #[.int .i64 (-9223372036854775808), .int .i64 9223372036854775807] 35)) := (((Below.refl _ w).alloc (Nat.le_refl _) _).alloc (by simp) _).alloc (by simp; omega) _
  have hK0 := blk_new3 w (.cells #[.func (.func gs) #[] lbs] 135) (.cells #[.int .i64 0, .int .i64 0] 35) (.cells #[.int .i64 (-9223372036854775808), .int .i64 9223372036854775807] 35)
  obtain ⟨W0, hW0⟩ : ∃ W0, (((w.alloc (.cells #[.func (.func gs) #[] lbs] 135)).alloc (.cells #[.int .i64 0, .int .i64 0] 35)).alloc (.cells #[.int .i64 (-9223372036854775808), .int .i64 9223372036854775807] 35)) = W0 := ⟨_, rfl⟩
  have hsz : W0.heap.size = w.heap.size + 3 := by rw [← hW0]; simp
  rw [hW0] at hB0 hK0 ⊢
  refine wpIn_rangeFunc_ownH rfl (by omega) (gf := gf) (lb := lb) rfl trivial egf
    (hseq W0 hB0) belowK_t (belowK_b (by omega)) (Below.refl _ _) (fun _ => rfl)
    (fun pre W => Blk W (w.heap.size + 1 + 1) #[.int .i64 (meetF (pre.map g)).1, .int .i64 (meetF (pre.map g)).2] 35 ∧ Blk W w.heap.size #[.func (.func gs) #[] lbs] 135 ∧ Blk W (w.heap.size + 1) #[.int .i64 0, .int .i64 0] 35 ∧ Below w.heap.size w W)
    (fun _ _ _ => False)
    (OwnFrom.and (blk_ownFrom _ _ (fun pre : List S35 => #[.int .i64 (meetF (pre.map g)).1, .int .i64 (meetF (pre.map g)).2]) _) (OwnFrom.and (blk_ownFrom _ _ (fun _ => _) _) (OwnFrom.and (blk_ownFrom _ _ (fun _ => _) _) (ownFrom_below (by omega) (by omega)))))
    (fun _ _ _ _ _ hs _ _ => hs)
    ⟨hK0.2.2, hK0.1, hK0.2.1, hB0⟩
    (fun x a' W => ∃ Bx, w.heap.size + 3 ≤ Bx ∧ Blk W Bx #[.int .i64 x.f0, .int .i64 x.f1] 35 ∧ a' = { tmps := #[.func (.func gf) #[] lb, .func (.func gs) #[] lbs, undef, .pointer (some ⟨w.heap.size, 0, none⟩), .pointer (some ⟨w.heap.size + 1, 0, none⟩), .bool false, .pointer (some ⟨w.heap.size + 1 + 1, 0, none⟩), .pointer (some ⟨Bx, 0, none⟩), undef, .agg #[.int .i64 (-9223372036854775808), .int .i64 9223372036854775807], .func (.func gf) #[] lb, enc35 x, undef, undef, undef, undef, undef, undef, undef, undef, undef, undef, undef, undef, undef, undef, undef, undef, undef, undef, undef, undef, undef], defers := [] })
    (fun x a' s X Y row hs hg hr => by
      obtain ⟨Bx, h1, h2, h3⟩ := hs
      exact ⟨Bx, h1, blk_grown h2 hg hr, h3⟩) ?assign ?body ?done ?stop
  case assign =>
    rintro l pre x W K ⟨h1, h2, h3, h4⟩ hK
    gi_wp2
    exact hK _ _ ((KeepsOthers.alloc _ _).from _) ((Below.refl _ W).alloc h4.size _) ⟨blk_alloc h1 _, blk_alloc h2 _, blk_alloc h3 _, h4.alloc h4.size _⟩ ⟨W.heap.size, by have := (Array.getElem?_eq_some_iff.1 h1).1; omega, World.alloc_heap_new W _, rfl⟩
  case body =>
    rintro l pre x a' W hl ⟨r, hr⟩ ⟨h1, h2, h3, h4⟩ ⟨Bx, hBx, hX, rfl⟩ hlen
    have c0 := blk_cell h2 0
    have c1 := blk_cell hX 0
    have c2 := blk_cell hX 1
    have c2' := blk_cell hX 2
    simp at c0 c1 c2 c2'
    have hd : 1 ≤ 6 - 1 - 1 := by omega
    have hmx : Try.prog.follows .mixedOrders = true := by kernel_rfl
    gi_wp2_with fail
    refine ⟨trivial, (CallsIn.inRound l (callsIn_wide.2 (hspan x W h4))).mono ?_⟩
    rintro e W1 ⟨rfl, hb1⟩
    have k1 := h1.below hb1
    have k2 := h2.below hb1
    have k3 := h3.below hb1
    have hB1 := h4.trans (hb1.mono h4.size)
    have hkf : KeepsFrom W0.heap.size W W1 := keepsFrom_below hb1
    have c3 : ∀ o, (W1.alloc o).cell? ⟨w.heap.size + 1 + 1, 0, none⟩ = some (.int .i64 (meetF (pre.map g)).1) := fun o => (blk_cell (blk_alloc k1 o) 0).trans rfl
    have c4 : ∀ o, (W1.alloc o).cell? ⟨w.heap.size + 1 + 1, 1, none⟩ = some (.int .i64 (meetF (pre.map g)).2) := fun o => (blk_cell (blk_alloc k1 o) 1).trans rfl
    have hne : w.heap.size + 1 + 1 ≠ W1.heap.size := by have := (Array.getElem?_eq_some_iff.1 k1).1; omega
    clear hX c0 c1 c2 c2'
    dsimp only [enc35]
    generalize hP : (meetF (pre.map g)).1 = P1 at c3 c4 k1 ⊢
    generalize hQ : (meetF (pre.map g)).2 = P2 at c3 c4 k1 ⊢
    generalize hg0 : (g x).f0 = G0
    generalize hg1 : (g x).f1 = G1
    have HP := Lib.hid hP
    have HQ := Lib.hid hQ
    have HG0 := Lib.hid hg0
    have HG1 := Lib.hid hg1
    clear hP hQ hg0 hg1
    gi_wp2_with fail
    have m1 := blk_alloc k1 (.cells #[.int .i64 G0, .int .i64 G1] 35)
    have m2 := blk_alloc k2 (.cells #[.int .i64 G0, .int .i64 G1] 35)
    have m3 := blk_alloc k3 (.cells #[.int .i64 G0, .int .i64 G1] 35)
    have m4 : (W1.alloc (.cells #[.int .i64 G0, .int .i64 G1] 35)).heap[W1.heap.size]? = some (.cells #[.int .i64 G0, .int .i64 G1] 35 (0, 0)) := World.alloc_heap_new W1 _
    have mB := hB1.alloc hB1.size (.cells #[.int .i64 G0, .int .i64 G1] 35)
    have hbW : Below w.heap.size W (W1.alloc (.cells #[.int .i64 G0, .int .i64 G1] 35)) := (hb1.mono h4.size).alloc hB1.size _
    have mk : KeepsFrom W0.heap.size W (W1.alloc (.cells #[.int .i64 G0, .int .i64 G1] 35)) := hkf.trans ((KeepsOthers.alloc _ _).from _)
    clear c3 c4
    generalize hNN : W1.heap.size = NN at m4 hne ⊢
    generalize hW2 : W1.alloc (.cells #[.int .i64 G0, .int .i64 G1] 35) = W2 at m1 m2 m3 m4 mB mk hbW ⊢
    clear hW2
    have mG : w.heap.size ≤ w.heap.size + 1 + 1 := by omega
    have hbW : Below w.heap.size W W2.drew := below_drew1 hbW
    have mW : KeepsFrom W0.heap.size W W2.drew := mk.trans ((KeepsOthers.drew _).from _)
    replace m1 := blk_drew m1
    replace m2 := blk_drew m2
    replace m3 := blk_drew m3
    replace m4 := blk_drew m4
    replace mB := below_drew1 mB
    refine startIn_ (m := 14) (S := fun w' => w'.cell? ⟨w.heap.size + 1 + 1, 1, none⟩ = some (.int .i64 P2) ∧ w'.cell? ⟨NN, 0, none⟩ = some (.int .i64 G0) ∧ w'.cell? ⟨NN, 1, none⟩ = some (.int .i64 G1)) (ds := [13]) #[false, false, false, false, false, false, false, false, false, false, false, false, false, false] (by kernel_rfl) (letsOut_inBlock letsOut_ownG) (by kernel_rfl) rfl rfl ⟨((blk_cell m1 1).trans rfl), ((blk_cell m4 0).trans rfl), ((blk_cell m4 1).trans rfl)⟩ (fun hHeld => ?_)
    generalize W2.drew = Wd at *
    refine pure_ (i := 0) (N := some 15) (v := ?_) (a' := ?_) #[true, false, false, false, false, false, false, false, false, false, false, false, false, false] rfl rfl (by kernel_rfl) (fun _ _ _ h => h) (Or.inl ⟨by rfl, ?_⟩) ?_ ?_
    rotate_left
    · intro w'
      go_simp
      with_reducible rfl
    rotate_left
    · simp only [Act.put, List.setIfInBounds_toArray, List.set_cons_zero, List.set_cons_succ, i64_w, i32_w]
      rfl
    refine pure_ (i := 2) (N := some 17) (v := ?_) (a' := ?_) #[true, false, true, false, false, false, false, false, false, false, false, false, false, false] rfl rfl (by kernel_rfl) (fun _ _ _ h => h) (Or.inl ⟨by rfl, ?_⟩) ?_ ?_
    rotate_left
    · intro w'
      go_simp
      with_reducible rfl
    rotate_left
    · simp only [Act.put, List.setIfInBounds_toArray, List.set_cons_zero, List.set_cons_succ, i64_w, i32_w]
      rfl
    refine pure_ (i := 5) (N := some 20) (v := ?_) (a' := ?_) #[true, false, true, false, false, true, false, false, false, false, false, false, false, false] rfl rfl (by kernel_rfl) (fun _ _ _ h => h) (Or.inl ⟨by rfl, ?_⟩) ?_ ?_
    rotate_left
    · intro w'
      go_simp
      with_reducible rfl
    rotate_left
    · simp only [Act.put, List.setIfInBounds_toArray, List.set_cons_zero, List.set_cons_succ, i64_w, i32_w]
      rfl
    refine pure_ (i := 7) (N := some 22) (v := ?_) (a' := ?_) #[true, false, true, false, false, true, false, true, false, false, false, false, false, false] rfl rfl (by kernel_rfl) (fun _ _ _ h => h) (Or.inl ⟨by rfl, ?_⟩) ?_ ?_
    rotate_left
    · intro w'
      go_simp
      with_reducible rfl
    rotate_left
    · simp only [Act.put, List.setIfInBounds_toArray, List.set_cons_zero, List.set_cons_succ, i64_w, i32_w]
      rfl
    refine take_ (i := 3) (N := some 18) (v := ?_) (a' := ?_) #[true, false, true, true, false, true, false, true, false, false, false, false, false, false] rfl rfl (by kernel_rfl) (fun _ _ _ h => h) (Or.inl ⟨by rfl, ?_⟩) hHeld ?_ ?_
    rotate_left
    · rintro w' ⟨s0, s1, s2⟩
      go_simp
      with_reducible rfl
    rotate_left
    · simp only [Act.put, List.setIfInBounds_toArray, List.set_cons_zero, List.set_cons_succ, i64_w, i32_w]
      rfl
    refine take_ (i := 6) (N := some 21) (v := ?_) (a' := ?_) #[true, false, true, true, false, true, true, true, false, false, false, false, false, false] rfl rfl (by kernel_rfl) (fun _ _ _ h => h) (Or.inl ⟨by rfl, ?_⟩) hHeld ?_ ?_
    rotate_left
    · rintro w' ⟨s0, s1, s2⟩
      go_simp
      with_reducible rfl
    rotate_left
    · simp only [Act.put, List.setIfInBounds_toArray, List.set_cons_zero, List.set_cons_succ, i64_w, i32_w]
      rfl
    refine take_ (i := 8) (N := some 23) (v := ?_) (a' := ?_) #[true, false, true, true, false, true, true, true, true, false, false, false, false, false] rfl rfl (by kernel_rfl) (fun _ _ _ h => h) (Or.inl ⟨by rfl, ?_⟩) hHeld ?_ ?_
    rotate_left
    · rintro w' ⟨s0, s1, s2⟩
      go_simp
      with_reducible rfl
    rotate_left
    · simp only [Act.put, List.setIfInBounds_toArray, List.set_cons_zero, List.set_cons_succ, i64_w, i32_w]
      rfl
    refine pure_ (i := 9) (N := some 24) (v := ?_) (a' := ?_) #[true, false, true, true, false, true, true, true, true, true, false, false, false, false] rfl rfl (by kernel_rfl) (fun _ _ _ h => h) (Or.inl ⟨by rfl, ?_⟩) ?_ ?_
    rotate_left
    · intro w'
      go_simp
      with_reducible rfl
    rotate_left
    · simp only [Act.put, List.setIfInBounds_toArray, List.set_cons_zero, List.set_cons_succ, i64_w, i32_w]
      rfl
    refine one_ (i := 1) (N := some 16) #[true, true, true, true, false, true, true, true, true, true, false, false, false, false] rfl rfl (by kernel_rfl) (by decide) (fun K hK => ?_)
    have hc1 := (blk_cell m1 0).trans rfl
    refine value_ (w1 := ?_) (v := ?_) (by rfl) rfl ?_ ?_
    rotate_left 2
    · go_simp
      constructor
      · rfl
      · rfl
    refine hK.out _ _ ⟨hHeld.1, hHeld.2.1, hHeld.2.2⟩ (fun hHeld => ?_)
    clear hK K
    refine norm_ (a' := ?_) ?_ ?_
    rotate_left
    · show Act.put _ (some 16) _ = _
      simp only [Act.put, List.setIfInBounds_toArray, List.set_cons_zero, List.set_cons_succ, i64_w, i32_w]
      rfl
    refine pure_ (i := 4) (N := some 19) (v := ?_) (a' := ?_) #[true, true, true, true, true, true, true, true, true, true, false, false, false, false] rfl rfl (by kernel_rfl) (fun _ _ _ h => h) (Or.inl ⟨by rfl, ?_⟩) ?_ ?_
    rotate_left
    · intro w'
      go_simp
      with_reducible rfl
    rotate_left
    · simp only [Act.put, List.setIfInBounds_toArray, List.set_cons_zero, List.set_cons_succ, i64_w, i32_w]
      rfl
    refine pure_ (i := 10) (N := some 25) (v := ?_) (a' := ?_) #[true, true, true, true, true, true, true, true, true, true, true, false, false, false] rfl rfl (by kernel_rfl) (fun _ _ _ h => h) (Or.inl ⟨by rfl, ?_⟩) ?_ ?_
    rotate_left
    · intro w'
      go_simp
      with_reducible rfl
    rotate_left
    · simp only [Act.put, List.setIfInBounds_toArray, List.set_cons_zero, List.set_cons_succ, i64_w, i32_w]
      rfl
    refine one_ (i := 11) (N := none) #[true, true, true, true, true, true, true, true, true, true, true, true, false, false] rfl rfl (by kernel_rfl) (by decide) (fun K hK => ?_)
    have hf := blk_frozen m1 0
    have hc := (blk_cell m1 0).trans rfl
    refine skip_ (w1 := ?_) (by rfl) rfl ?_ ?_
    rotate_left
    · go_simp
      rfl
    refine hK.out _ _ ⟨((blk_cell (blk_put m1 0 _ rfl) 1).trans rfl), ((cell_far (p := ⟨w.heap.size + 1 + 1, _, none⟩) hne.symm _).trans hHeld.2.1), ((cell_far (p := ⟨w.heap.size + 1 + 1, _, none⟩) hne.symm _).trans hHeld.2.2)⟩ (fun hHeld => ?_)
    clear hK K
    refine pure_ (i := 12) (N := some 26) (v := ?_) (a' := ?_) #[true, true, true, true, true, true, true, true, true, true, true, true, true, false] rfl rfl (by kernel_rfl) (fun _ _ _ h => h) (Or.inl ⟨by rfl, ?_⟩) ?_ ?_
    rotate_left
    · intro w'
      go_simp
      with_reducible rfl
    rotate_left
    · simp only [Act.put, List.setIfInBounds_toArray, List.set_cons_zero, List.set_cons_succ, i64_w, i32_w]
      rfl
    refine last_ (i := 13) (N := none) #[true, true, true, true, true, true, true, true, true, true, true, true, true, true] rfl rfl (by kernel_rfl) (by decide) (fun K hK => ?_)
    have hf2 := blk_frozen m1 1
    have hc2 := hHeld.1
    refine skip_ (w1 := ?_) (by rfl) rfl ?_ ?_
    rotate_left
    · go_simp
      rfl
    refine hK.out _ _ ?_
    clear hK K
    refine done_ (by kernel_rfl) ?_
    have z0 : Blk (Wd.setCell ⟨w.heap.size + 1 + 1, 0, none⟩ (.int .i64 (if P1 < G0 then G0 else P1))) (w.heap.size + 1 + 1) #[.int .i64 (if P1 < G0 then G0 else P1), .int .i64 P2] 35 := blk_put m1 0 _ rfl
    have z1 : Blk ((Wd.setCell ⟨w.heap.size + 1 + 1, 0, none⟩ (.int .i64 (if P1 < G0 then G0 else P1))).setCell ⟨w.heap.size + 1 + 1, 1, none⟩ (.int .i64 (if G1 < P2 then G1 else P2))) (w.heap.size + 1 + 1) #[.int .i64 (if P1 < G0 then G0 else P1), .int .i64 (if G1 < P2 then G1 else P2)] 35 := blk_put z0 1 _ rfl
    exact ⟨mW.trans (keepsFrom_set2 _ _ _ _ _ _ _), hbW.trans (((Below.refl _ Wd).setCell mG _).setCell mG _), by rw [List.map_append, List.map_singleton, meetF_snoc]; dsimp only; rw [HP.out, HQ.out, HG0.out, HG1.out]; exact z1, blk_far (blk_far m2 (by show w.heap.size ≠ w.heap.size + 1 + 1; omega) _) (by show w.heap.size ≠ w.heap.size + 1 + 1; omega) _, blk_far (blk_far m3 (by show w.heap.size + 1 ≠ w.heap.size + 1 + 1; omega) _) (by show w.heap.size + 1 ≠ w.heap.size + 1 + 1; omega) _, (mB.setCell mG _).setCell mG _⟩
  case done =>
    rintro D ys W hD rfl ⟨h1, h2, h3, h4⟩ hK
    obtain ⟨P1, P2, hR⟩ : ∃ P1 P2, meetF (ys.map g) = (P1, P2) := ⟨_, _, rfl⟩
    rw [hR] at h1
    dsimp only at h1
    have HR := Lib.hid hR
    clear hR
    gi_wp2_with fail
    refine wpIn_only (wpIn_wide.2 ?_)
    replace h1 := blk_drew h1
    replace h3 := blk_drew h3
    replace h4 := below_drew1 h4
    replace hK := blk_drew hK
    refine start_ (n := 8) (S := fun w' => w'.cell? ⟨w.heap.size + 1 + 1, 0, none⟩ = some (.int .i64 P1) ∧ w'.cell? ⟨w.heap.size + 1 + 1, 1, none⟩ = some (.int .i64 P2)) (ds := []) #[false, false, false, false, false, false, false, false] (by kernel_rfl) rfl rfl ⟨((blk_cell h1 0).trans rfl), ((blk_cell h1 1).trans rfl)⟩ (fun hHeld => ?_)
    generalize W.drew = Wd at *
    refine pure_ (i := 1) (N := some 28) (v := ?_) (a' := ?_) #[false, true, false, false, false, false, false, false] rfl rfl (by kernel_rfl) (fun _ _ _ h => h) (Or.inl ⟨by rfl, ?_⟩) ?_ ?_
    rotate_left
    · intro w'
      go_simp
      with_reducible rfl
    rotate_left
    · simp only [Act.put, List.setIfInBounds_toArray, List.set_cons_zero, List.set_cons_succ, i64_w, i32_w]
      rfl
    refine pure_ (i := 3) (N := some 30) (v := ?_) (a' := ?_) #[false, true, false, true, false, false, false, false] rfl rfl (by kernel_rfl) (fun _ _ _ h => h) (Or.inl ⟨by rfl, ?_⟩) ?_ ?_
    rotate_left
    · intro w'
      go_simp
      with_reducible rfl
    rotate_left
    · simp only [Act.put, List.setIfInBounds_toArray, List.set_cons_zero, List.set_cons_succ, i64_w, i32_w]
      rfl
    refine take_ (i := 0) (N := some 27) (v := ?_) (a' := ?_) #[true, true, false, true, false, false, false, false] rfl rfl (by kernel_rfl) (fun _ _ _ h => h) (Or.inl ⟨by rfl, ?_⟩) hHeld ?_ ?_
    rotate_left
    · rintro w' ⟨s0, s1⟩
      go_simp
      with_reducible rfl
    rotate_left
    · simp only [Act.put, List.setIfInBounds_toArray, List.set_cons_zero, List.set_cons_succ, i64_w, i32_w]
      rfl
    refine take_ (i := 2) (N := some 29) (v := ?_) (a' := ?_) #[true, true, true, true, false, false, false, false] rfl rfl (by kernel_rfl) (fun _ _ _ h => h) (Or.inl ⟨by rfl, ?_⟩) hHeld ?_ ?_
    rotate_left
    · rintro w' ⟨s0, s1⟩
      go_simp
      with_reducible rfl
    rotate_left
    · simp only [Act.put, List.setIfInBounds_toArray, List.set_cons_zero, List.set_cons_succ, i64_w, i32_w]
      rfl
    refine take_ (i := 4) (N := some 31) (v := ?_) (a' := ?_) #[true, true, true, true, true, false, false, false] rfl rfl (by kernel_rfl) (fun _ _ _ h => h) (Or.inl ⟨by rfl, ?_⟩) hHeld ?_ ?_
    rotate_left
    · rintro w' ⟨s0, s1⟩
      go_simp
      with_reducible rfl
    rotate_left
    · simp only [Act.put, List.setIfInBounds_toArray, List.set_cons_zero, List.set_cons_succ, i64_w, i32_w]
      rfl
    refine pure_ (i := 5) (N := some 32) (v := ?_) (a' := ?_) #[true, true, true, true, true, true, false, false] rfl rfl (by kernel_rfl) (fun _ _ _ h => h) (Or.inl ⟨by rfl, ?_⟩) ?_ ?_
    rotate_left
    · intro w'
      go_simp
      with_reducible rfl
    rotate_left
    · simp only [Act.put, List.setIfInBounds_toArray, List.set_cons_zero, List.set_cons_succ, i64_w, i32_w]
      rfl
    refine one_ (i := 6) (N := none) #[true, true, true, true, true, true, true, false] rfl rfl (by kernel_rfl) (by decide) (fun K hK => ?_)
    have hf0 := blk_frozen h3 0
    have hf1 := blk_frozen h3 1
    have hc0 := (blk_cell h3 0).trans rfl
    have hc1 := (blk_cell h3 1).trans rfl
    refine skip_ (w1 := ?_) (by rfl) rfl ?_ ?_
    rotate_left
    · go_simp
      rfl
    refine hK.out _ _ ⟨((cell_far (p := ⟨w.heap.size + 1, _, none⟩) (by show w.heap.size + 1 + 1 ≠ w.heap.size + 1; omega) _).trans ((cell_far (p := ⟨w.heap.size + 1, _, none⟩) (by show w.heap.size + 1 + 1 ≠ w.heap.size + 1; omega) _).trans hHeld.1)), ((cell_far (p := ⟨w.heap.size + 1, _, none⟩) (by show w.heap.size + 1 + 1 ≠ w.heap.size + 1; omega) _).trans ((cell_far (p := ⟨w.heap.size + 1, _, none⟩) (by show w.heap.size + 1 + 1 ≠ w.heap.size + 1; omega) _).trans hHeld.2))⟩ (fun hHeld => ?_)
    clear hK K
    refine pure_ (i := 7) (N := some 5) (v := ?_) (a' := ?_) #[true, true, true, true, true, true, true, true] rfl rfl (by kernel_rfl) (fun _ _ _ h => h) (Or.inl ⟨by rfl, ?_⟩) ?_ ?_
    rotate_left
    · intro w'
      go_simp
      with_reducible rfl
    rotate_left
    · simp only [Act.put, List.setIfInBounds_toArray, List.set_cons_zero, List.set_cons_succ, i64_w, i32_w]
      rfl
    refine done_ (by kernel_rfl) ?_
    have n3 : Blk ((Wd.setCell ⟨w.heap.size + 1, 0, none⟩ (.int .i64 P1)).setCell ⟨w.heap.size + 1, 1, none⟩ (.int .i64 P2)) (w.heap.size + 1) #[.int .i64 P1, .int .i64 P2] 35 := blk_put (blk_put h3 0 _ rfl) 1 _ rfl
    have hK1 : ((Wd.setCell ⟨w.heap.size + 1, 0, none⟩ (.int .i64 P1)).setCell ⟨w.heap.size + 1, 1, none⟩ (.int .i64 P2)).heap[D]? = some (.deferred (some [])) :=
      (Below.heap_setCell _ _ _ D (by show D ≠ w.heap.size + 1; omega)).trans ((Below.heap_setCell _ _ _ D (by show D ≠ w.heap.size + 1; omega)).trans hK)
    have hB2 : Below w.heap.size w ((Wd.setCell ⟨w.heap.size + 1, 0, none⟩ (.int .i64 P1)).setCell ⟨w.heap.size + 1, 1, none⟩ (.int .i64 P2)) := (h4.setCell (p := ⟨w.heap.size + 1, 0, none⟩) (by show w.heap.size ≤ w.heap.size + 1; omega) _).setCell (p := ⟨w.heap.size + 1, 1, none⟩) (by show w.heap.size ≤ w.heap.size + 1; omega) _
    refine onlyN_normal ?_
    gi_wp2
    refine ⟨by simp, .inl ⟨_, _, rfl, run_takeDeferred hK1, ?_⟩⟩
    refine ⟨_, results_ct rfl _ _ (w.heap.size + 1) 35 #[.int .i64 P1, .int .i64 P2] (0, 0) _ rfl ((World.putObj_heap_other (by omega)).trans n3) Try.underlying35 rfl (by kernel_rfl), by rw [HR.out]; rfl, hB2.trans (belowK_b (w := w) (Nat.le_refl _) _ D _ _ (by omega) hK1 rfl rfl)⟩
  case stop =>
    rintro D c pre W hD _ h _
    exact h.elim

set_option maxRecDepth 100000 in
set_option maxHeartbeats 4000000 in
theorem meet105_any (gf gs : Nat) (lb lbs : Array Value) (w : World) (xs : List S105) (g : S105 → S35)
    (egf : ∀ args w, (callFunc gf args).run Try.prog w = .ok (.enter gf args) w) (egs : ∀ args w, (callFunc gs args).run Try.prog w = .ok (.enter gs args) w)
    (hseq : ∀ W, Below w.heap.size w W → SeqStopsK Fence.wide 5 Try.prog gf lb (fun x : S105 => #[enc105 x]) (Below w.heap.size) (fun ys => ys = xs) (fun pre => pre <+: xs) xs.length W)
    (hspan : ∀ x W, Below w.heap.size w W → Calls Try.prog gs (#[enc105 x] ++ lbs) W fun e W' => e = .returned (enc35 (g x)) ∧ Below W.heap.size W W') :
    Calls Try.prog 87 #[.func (.func gf) #[] lb, .func (.func gs) #[] lbs] w fun e w' => e = .returned (.tuple #[.agg #[.int .i64 (meetF (xs.map g)).1, .int .i64 (meetF (xs.map g)).2], .bool (decide ((meetF (xs.map g)).1 ≤ (meetF (xs.map g)).2))]) ∧ Below w.heap.size w w' := by
  have hu35 := Try.underlying35
  have hu105 := Try.underlying105
  refine (callsIn_wide (n := 6)).1 ?_
  refine callsIn_of_wp_marks Try.func87 rfl trivial ?_ rfl
  simp only [Try.ntmps87, List.size_toArray, List.length_cons, List.length_nil, Nat.reduceAdd, Nat.reduceSub, Array.replicate_succ, Array.replicate_zero, List.push_toArray, List.append_toArray, List.nil_append, List.cons_append]
  gi_wp2
  have hB0 : Below w.heap.size w (((w.alloc (.cells #[.func (.func gs) #[] lbs] 142)).alloc (.cells #[.int .i64 0, .int .i64 0] 35)).alloc (.cells #[.int .i64 (-9223372036854775808), .int .i64 9223372036854775807] 35)) := (((Below.refl _ w).alloc (Nat.le_refl _) _).alloc (by simp) _).alloc (by simp; omega) _
  have hK0 := blk_new3 w (.cells #[.func (.func gs) #[] lbs] 142) (.cells #[.int .i64 0, .int .i64 0] 35) (.cells #[.int .i64 (-9223372036854775808), .int .i64 9223372036854775807] 35)
  obtain ⟨W0, hW0⟩ : ∃ W0, (((w.alloc (.cells #[.func (.func gs) #[] lbs] 142)).alloc (.cells #[.int .i64 0, .int .i64 0] 35)).alloc (.cells #[.int .i64 (-9223372036854775808), .int .i64 9223372036854775807] 35)) = W0 := ⟨_, rfl⟩
  have hsz : W0.heap.size = w.heap.size + 3 := by rw [← hW0]; simp
  rw [hW0] at hB0 hK0 ⊢
  refine wpIn_rangeFunc_ownH rfl (by omega) (gf := gf) (lb := lb) rfl trivial egf
    (hseq W0 hB0) belowK_t (belowK_b (by omega)) (Below.refl _ _) (fun _ => rfl)
    (fun pre W => Blk W (w.heap.size + 1 + 1) #[.int .i64 (meetF (pre.map g)).1, .int .i64 (meetF (pre.map g)).2] 35 ∧ Blk W w.heap.size #[.func (.func gs) #[] lbs] 142 ∧ Blk W (w.heap.size + 1) #[.int .i64 0, .int .i64 0] 35 ∧ Below w.heap.size w W)
    (fun _ _ _ => False)
    (OwnFrom.and (blk_ownFrom _ _ (fun pre : List S105 => #[.int .i64 (meetF (pre.map g)).1, .int .i64 (meetF (pre.map g)).2]) _) (OwnFrom.and (blk_ownFrom _ _ (fun _ => _) _) (OwnFrom.and (blk_ownFrom _ _ (fun _ => _) _) (ownFrom_below (by omega) (by omega)))))
    (fun _ _ _ _ _ hs _ _ => hs)
    ⟨hK0.2.2, hK0.1, hK0.2.1, hB0⟩
    (fun x a' W => ∃ Bx, w.heap.size + 3 ≤ Bx ∧ Blk W Bx #[.int .i64 x.f0.f0, .int .i64 x.f0.f1, .int .i64 x.f1] 105 ∧ a' = { tmps := #[.func (.func gf) #[] lb, .func (.func gs) #[] lbs, undef, .pointer (some ⟨w.heap.size, 0, none⟩), .pointer (some ⟨w.heap.size + 1, 0, none⟩), .bool false, .pointer (some ⟨w.heap.size + 1 + 1, 0, none⟩), .pointer (some ⟨Bx, 0, none⟩), undef, .agg #[.int .i64 (-9223372036854775808), .int .i64 9223372036854775807], .func (.func gf) #[] lb, enc105 x, undef, undef, undef, undef, undef, undef, undef, undef, undef, undef, undef, undef, undef, undef, undef, undef, undef, undef, undef, undef, undef], defers := [] })
    (fun x a' s X Y row hs hg hr => by
      obtain ⟨Bx, h1, h2, h3⟩ := hs
      exact ⟨Bx, h1, blk_grown h2 hg hr, h3⟩) ?assign ?body ?done ?stop
  case assign =>
    rintro l pre x W K ⟨h1, h2, h3, h4⟩ hK
    gi_wp2
    exact hK _ _ ((KeepsOthers.alloc _ _).from _) ((Below.refl _ W).alloc h4.size _) ⟨blk_alloc h1 _, blk_alloc h2 _, blk_alloc h3 _, h4.alloc h4.size _⟩ ⟨W.heap.size, by have := (Array.getElem?_eq_some_iff.1 h1).1; omega, World.alloc_heap_new W _, rfl⟩
  case body =>
    rintro l pre x a' W hl ⟨r, hr⟩ ⟨h1, h2, h3, h4⟩ ⟨Bx, hBx, hX, rfl⟩ hlen
    have c0 := blk_cell h2 0
    have c1 := blk_cell hX 0
    have c2 := blk_cell hX 1
    have c2' := blk_cell hX 2
    simp at c0 c1 c2 c2'
    have hd : 1 ≤ 6 - 1 - 1 := by omega
    have hmx : Try.prog.follows .mixedOrders = true := by kernel_rfl
    gi_wp2_with fail
    refine ⟨trivial, (CallsIn.inRound l (callsIn_wide.2 (hspan x W h4))).mono ?_⟩
    rintro e W1 ⟨rfl, hb1⟩
    have k1 := h1.below hb1
    have k2 := h2.below hb1
    have k3 := h3.below hb1
    have hB1 := h4.trans (hb1.mono h4.size)
    have hkf : KeepsFrom W0.heap.size W W1 := keepsFrom_below hb1
    have c3 : ∀ o, (W1.alloc o).cell? ⟨w.heap.size + 1 + 1, 0, none⟩ = some (.int .i64 (meetF (pre.map g)).1) := fun o => (blk_cell (blk_alloc k1 o) 0).trans rfl
    have c4 : ∀ o, (W1.alloc o).cell? ⟨w.heap.size + 1 + 1, 1, none⟩ = some (.int .i64 (meetF (pre.map g)).2) := fun o => (blk_cell (blk_alloc k1 o) 1).trans rfl
    have hne : w.heap.size + 1 + 1 ≠ W1.heap.size := by have := (Array.getElem?_eq_some_iff.1 k1).1; omega
    clear hX c0 c1 c2 c2'
    dsimp only [enc35]
    generalize hP : (meetF (pre.map g)).1 = P1 at c3 c4 k1 ⊢
    generalize hQ : (meetF (pre.map g)).2 = P2 at c3 c4 k1 ⊢
    generalize hg0 : (g x).f0 = G0
    generalize hg1 : (g x).f1 = G1
    have HP := Lib.hid hP
    have HQ := Lib.hid hQ
    have HG0 := Lib.hid hg0
    have HG1 := Lib.hid hg1
    clear hP hQ hg0 hg1
    gi_wp2_with fail
    have m1 := blk_alloc k1 (.cells #[.int .i64 G0, .int .i64 G1] 35)
    have m2 := blk_alloc k2 (.cells #[.int .i64 G0, .int .i64 G1] 35)
    have m3 := blk_alloc k3 (.cells #[.int .i64 G0, .int .i64 G1] 35)
    have m4 : (W1.alloc (.cells #[.int .i64 G0, .int .i64 G1] 35)).heap[W1.heap.size]? = some (.cells #[.int .i64 G0, .int .i64 G1] 35 (0, 0)) := World.alloc_heap_new W1 _
    have mB := hB1.alloc hB1.size (.cells #[.int .i64 G0, .int .i64 G1] 35)
    have hbW : Below w.heap.size W (W1.alloc (.cells #[.int .i64 G0, .int .i64 G1] 35)) := (hb1.mono h4.size).alloc hB1.size _
    have mk : KeepsFrom W0.heap.size W (W1.alloc (.cells #[.int .i64 G0, .int .i64 G1] 35)) := hkf.trans ((KeepsOthers.alloc _ _).from _)
    clear c3 c4
    generalize hNN : W1.heap.size = NN at m4 hne ⊢
    generalize hW2 : W1.alloc (.cells #[.int .i64 G0, .int .i64 G1] 35) = W2 at m1 m2 m3 m4 mB mk hbW ⊢
    clear hW2
    have mG : w.heap.size ≤ w.heap.size + 1 + 1 := by omega
    have hbW : Below w.heap.size W W2.drew := below_drew1 hbW
    have mW : KeepsFrom W0.heap.size W W2.drew := mk.trans ((KeepsOthers.drew _).from _)
    replace m1 := blk_drew m1
    replace m2 := blk_drew m2
    replace m3 := blk_drew m3
    replace m4 := blk_drew m4
    replace mB := below_drew1 mB
    refine startIn_ (m := 14) (S := fun w' => w'.cell? ⟨w.heap.size + 1 + 1, 1, none⟩ = some (.int .i64 P2) ∧ w'.cell? ⟨NN, 0, none⟩ = some (.int .i64 G0) ∧ w'.cell? ⟨NN, 1, none⟩ = some (.int .i64 G1)) (ds := [13]) #[false, false, false, false, false, false, false, false, false, false, false, false, false, false] (by kernel_rfl) (letsOut_inBlock letsOut_ownG) (by kernel_rfl) rfl rfl ⟨((blk_cell m1 1).trans rfl), ((blk_cell m4 0).trans rfl), ((blk_cell m4 1).trans rfl)⟩ (fun hHeld => ?_)
    generalize W2.drew = Wd at *
    refine pure_ (i := 0) (N := some 15) (v := ?_) (a' := ?_) #[true, false, false, false, false, false, false, false, false, false, false, false, false, false] rfl rfl (by kernel_rfl) (fun _ _ _ h => h) (Or.inl ⟨by rfl, ?_⟩) ?_ ?_
    rotate_left
    · intro w'
      go_simp
      with_reducible rfl
    rotate_left
    · simp only [Act.put, List.setIfInBounds_toArray, List.set_cons_zero, List.set_cons_succ, i64_w, i32_w]
      rfl
    refine pure_ (i := 2) (N := some 17) (v := ?_) (a' := ?_) #[true, false, true, false, false, false, false, false, false, false, false, false, false, false] rfl rfl (by kernel_rfl) (fun _ _ _ h => h) (Or.inl ⟨by rfl, ?_⟩) ?_ ?_
    rotate_left
    · intro w'
      go_simp
      with_reducible rfl
    rotate_left
    · simp only [Act.put, List.setIfInBounds_toArray, List.set_cons_zero, List.set_cons_succ, i64_w, i32_w]
      rfl
    refine pure_ (i := 5) (N := some 20) (v := ?_) (a' := ?_) #[true, false, true, false, false, true, false, false, false, false, false, false, false, false] rfl rfl (by kernel_rfl) (fun _ _ _ h => h) (Or.inl ⟨by rfl, ?_⟩) ?_ ?_
    rotate_left
    · intro w'
      go_simp
      with_reducible rfl
    rotate_left
    · simp only [Act.put, List.setIfInBounds_toArray, List.set_cons_zero, List.set_cons_succ, i64_w, i32_w]
      rfl
    refine pure_ (i := 7) (N := some 22) (v := ?_) (a' := ?_) #[true, false, true, false, false, true, false, true, false, false, false, false, false, false] rfl rfl (by kernel_rfl) (fun _ _ _ h => h) (Or.inl ⟨by rfl, ?_⟩) ?_ ?_
    rotate_left
    · intro w'
      go_simp
      with_reducible rfl
    rotate_left
    · simp only [Act.put, List.setIfInBounds_toArray, List.set_cons_zero, List.set_cons_succ, i64_w, i32_w]
      rfl
    refine take_ (i := 3) (N := some 18) (v := ?_) (a' := ?_) #[true, false, true, true, false, true, false, true, false, false, false, false, false, false] rfl rfl (by kernel_rfl) (fun _ _ _ h => h) (Or.inl ⟨by rfl, ?_⟩) hHeld ?_ ?_
    rotate_left
    · rintro w' ⟨s0, s1, s2⟩
      go_simp
      with_reducible rfl
    rotate_left
    · simp only [Act.put, List.setIfInBounds_toArray, List.set_cons_zero, List.set_cons_succ, i64_w, i32_w]
      rfl
    refine take_ (i := 6) (N := some 21) (v := ?_) (a' := ?_) #[true, false, true, true, false, true, true, true, false, false, false, false, false, false] rfl rfl (by kernel_rfl) (fun _ _ _ h => h) (Or.inl ⟨by rfl, ?_⟩) hHeld ?_ ?_
    rotate_left
    · rintro w' ⟨s0, s1, s2⟩
      go_simp
      with_reducible rfl
    rotate_left
    · simp only [Act.put, List.setIfInBounds_toArray, List.set_cons_zero, List.set_cons_succ, i64_w, i32_w]
      rfl
    refine take_ (i := 8) (N := some 23) (v := ?_) (a' := ?_) #[true, false, true, true, false, true, true, true, true, false, false, false, false, false] rfl rfl (by kernel_rfl) (fun _ _ _ h => h) (Or.inl ⟨by rfl, ?_⟩) hHeld ?_ ?_
    rotate_left
    · rintro w' ⟨s0, s1, s2⟩
      go_simp
      with_reducible rfl
    rotate_left
    · simp only [Act.put, List.setIfInBounds_toArray, List.set_cons_zero, List.set_cons_succ, i64_w, i32_w]
      rfl
    refine pure_ (i := 9) (N := some 24) (v := ?_) (a' := ?_) #[true, false, true, true, false, true, true, true, true, true, false, false, false, false] rfl rfl (by kernel_rfl) (fun _ _ _ h => h) (Or.inl ⟨by rfl, ?_⟩) ?_ ?_
    rotate_left
    · intro w'
      go_simp
      with_reducible rfl
    rotate_left
    · simp only [Act.put, List.setIfInBounds_toArray, List.set_cons_zero, List.set_cons_succ, i64_w, i32_w]
      rfl
    refine one_ (i := 1) (N := some 16) #[true, true, true, true, false, true, true, true, true, true, false, false, false, false] rfl rfl (by kernel_rfl) (by decide) (fun K hK => ?_)
    have hc1 := (blk_cell m1 0).trans rfl
    refine value_ (w1 := ?_) (v := ?_) (by rfl) rfl ?_ ?_
    rotate_left 2
    · go_simp
      constructor
      · rfl
      · rfl
    refine hK.out _ _ ⟨hHeld.1, hHeld.2.1, hHeld.2.2⟩ (fun hHeld => ?_)
    clear hK K
    refine norm_ (a' := ?_) ?_ ?_
    rotate_left
    · show Act.put _ (some 16) _ = _
      simp only [Act.put, List.setIfInBounds_toArray, List.set_cons_zero, List.set_cons_succ, i64_w, i32_w]
      rfl
    refine pure_ (i := 4) (N := some 19) (v := ?_) (a' := ?_) #[true, true, true, true, true, true, true, true, true, true, false, false, false, false] rfl rfl (by kernel_rfl) (fun _ _ _ h => h) (Or.inl ⟨by rfl, ?_⟩) ?_ ?_
    rotate_left
    · intro w'
      go_simp
      with_reducible rfl
    rotate_left
    · simp only [Act.put, List.setIfInBounds_toArray, List.set_cons_zero, List.set_cons_succ, i64_w, i32_w]
      rfl
    refine pure_ (i := 10) (N := some 25) (v := ?_) (a' := ?_) #[true, true, true, true, true, true, true, true, true, true, true, false, false, false] rfl rfl (by kernel_rfl) (fun _ _ _ h => h) (Or.inl ⟨by rfl, ?_⟩) ?_ ?_
    rotate_left
    · intro w'
      go_simp
      with_reducible rfl
    rotate_left
    · simp only [Act.put, List.setIfInBounds_toArray, List.set_cons_zero, List.set_cons_succ, i64_w, i32_w]
      rfl
    refine one_ (i := 11) (N := none) #[true, true, true, true, true, true, true, true, true, true, true, true, false, false] rfl rfl (by kernel_rfl) (by decide) (fun K hK => ?_)
    have hf := blk_frozen m1 0
    have hc := (blk_cell m1 0).trans rfl
    refine skip_ (w1 := ?_) (by rfl) rfl ?_ ?_
    rotate_left
    · go_simp
      rfl
    refine hK.out _ _ ⟨((blk_cell (blk_put m1 0 _ rfl) 1).trans rfl), ((cell_far (p := ⟨w.heap.size + 1 + 1, _, none⟩) hne.symm _).trans hHeld.2.1), ((cell_far (p := ⟨w.heap.size + 1 + 1, _, none⟩) hne.symm _).trans hHeld.2.2)⟩ (fun hHeld => ?_)
    clear hK K
    refine pure_ (i := 12) (N := some 26) (v := ?_) (a' := ?_) #[true, true, true, true, true, true, true, true, true, true, true, true, true, false] rfl rfl (by kernel_rfl) (fun _ _ _ h => h) (Or.inl ⟨by rfl, ?_⟩) ?_ ?_
    rotate_left
    · intro w'
      go_simp
      with_reducible rfl
    rotate_left
    · simp only [Act.put, List.setIfInBounds_toArray, List.set_cons_zero, List.set_cons_succ, i64_w, i32_w]
      rfl
    refine last_ (i := 13) (N := none) #[true, true, true, true, true, true, true, true, true, true, true, true, true, true] rfl rfl (by kernel_rfl) (by decide) (fun K hK => ?_)
    have hf2 := blk_frozen m1 1
    have hc2 := hHeld.1
    refine skip_ (w1 := ?_) (by rfl) rfl ?_ ?_
    rotate_left
    · go_simp
      rfl
    refine hK.out _ _ ?_
    clear hK K
    refine done_ (by kernel_rfl) ?_
    have z0 : Blk (Wd.setCell ⟨w.heap.size + 1 + 1, 0, none⟩ (.int .i64 (if P1 < G0 then G0 else P1))) (w.heap.size + 1 + 1) #[.int .i64 (if P1 < G0 then G0 else P1), .int .i64 P2] 35 := blk_put m1 0 _ rfl
    have z1 : Blk ((Wd.setCell ⟨w.heap.size + 1 + 1, 0, none⟩ (.int .i64 (if P1 < G0 then G0 else P1))).setCell ⟨w.heap.size + 1 + 1, 1, none⟩ (.int .i64 (if G1 < P2 then G1 else P2))) (w.heap.size + 1 + 1) #[.int .i64 (if P1 < G0 then G0 else P1), .int .i64 (if G1 < P2 then G1 else P2)] 35 := blk_put z0 1 _ rfl
    exact ⟨mW.trans (keepsFrom_set2 _ _ _ _ _ _ _), hbW.trans (((Below.refl _ Wd).setCell mG _).setCell mG _), by rw [List.map_append, List.map_singleton, meetF_snoc]; dsimp only; rw [HP.out, HQ.out, HG0.out, HG1.out]; exact z1, blk_far (blk_far m2 (by show w.heap.size ≠ w.heap.size + 1 + 1; omega) _) (by show w.heap.size ≠ w.heap.size + 1 + 1; omega) _, blk_far (blk_far m3 (by show w.heap.size + 1 ≠ w.heap.size + 1 + 1; omega) _) (by show w.heap.size + 1 ≠ w.heap.size + 1 + 1; omega) _, (mB.setCell mG _).setCell mG _⟩
  case done =>
    rintro D ys W hD rfl ⟨h1, h2, h3, h4⟩ hK
    obtain ⟨P1, P2, hR⟩ : ∃ P1 P2, meetF (ys.map g) = (P1, P2) := ⟨_, _, rfl⟩
    rw [hR] at h1
    dsimp only at h1
    have HR := Lib.hid hR
    clear hR
    gi_wp2_with fail
    refine wpIn_only (wpIn_wide.2 ?_)
    replace h1 := blk_drew h1
    replace h3 := blk_drew h3
    replace h4 := below_drew1 h4
    replace hK := blk_drew hK
    refine start_ (n := 8) (S := fun w' => w'.cell? ⟨w.heap.size + 1 + 1, 0, none⟩ = some (.int .i64 P1) ∧ w'.cell? ⟨w.heap.size + 1 + 1, 1, none⟩ = some (.int .i64 P2)) (ds := []) #[false, false, false, false, false, false, false, false] (by kernel_rfl) rfl rfl ⟨((blk_cell h1 0).trans rfl), ((blk_cell h1 1).trans rfl)⟩ (fun hHeld => ?_)
    generalize W.drew = Wd at *
    refine pure_ (i := 1) (N := some 28) (v := ?_) (a' := ?_) #[false, true, false, false, false, false, false, false] rfl rfl (by kernel_rfl) (fun _ _ _ h => h) (Or.inl ⟨by rfl, ?_⟩) ?_ ?_
    rotate_left
    · intro w'
      go_simp
      with_reducible rfl
    rotate_left
    · simp only [Act.put, List.setIfInBounds_toArray, List.set_cons_zero, List.set_cons_succ, i64_w, i32_w]
      rfl
    refine pure_ (i := 3) (N := some 30) (v := ?_) (a' := ?_) #[false, true, false, true, false, false, false, false] rfl rfl (by kernel_rfl) (fun _ _ _ h => h) (Or.inl ⟨by rfl, ?_⟩) ?_ ?_
    rotate_left
    · intro w'
      go_simp
      with_reducible rfl
    rotate_left
    · simp only [Act.put, List.setIfInBounds_toArray, List.set_cons_zero, List.set_cons_succ, i64_w, i32_w]
      rfl
    refine take_ (i := 0) (N := some 27) (v := ?_) (a' := ?_) #[true, true, false, true, false, false, false, false] rfl rfl (by kernel_rfl) (fun _ _ _ h => h) (Or.inl ⟨by rfl, ?_⟩) hHeld ?_ ?_
    rotate_left
    · rintro w' ⟨s0, s1⟩
      go_simp
      with_reducible rfl
    rotate_left
    · simp only [Act.put, List.setIfInBounds_toArray, List.set_cons_zero, List.set_cons_succ, i64_w, i32_w]
      rfl
    refine take_ (i := 2) (N := some 29) (v := ?_) (a' := ?_) #[true, true, true, true, false, false, false, false] rfl rfl (by kernel_rfl) (fun _ _ _ h => h) (Or.inl ⟨by rfl, ?_⟩) hHeld ?_ ?_
    rotate_left
    · rintro w' ⟨s0, s1⟩
      go_simp
      with_reducible rfl
    rotate_left
    · simp only [Act.put, List.setIfInBounds_toArray, List.set_cons_zero, List.set_cons_succ, i64_w, i32_w]
      rfl
    refine take_ (i := 4) (N := some 31) (v := ?_) (a' := ?_) #[true, true, true, true, true, false, false, false] rfl rfl (by kernel_rfl) (fun _ _ _ h => h) (Or.inl ⟨by rfl, ?_⟩) hHeld ?_ ?_
    rotate_left
    · rintro w' ⟨s0, s1⟩
      go_simp
      with_reducible rfl
    rotate_left
    · simp only [Act.put, List.setIfInBounds_toArray, List.set_cons_zero, List.set_cons_succ, i64_w, i32_w]
      rfl
    refine pure_ (i := 5) (N := some 32) (v := ?_) (a' := ?_) #[true, true, true, true, true, true, false, false] rfl rfl (by kernel_rfl) (fun _ _ _ h => h) (Or.inl ⟨by rfl, ?_⟩) ?_ ?_
    rotate_left
    · intro w'
      go_simp
      with_reducible rfl
    rotate_left
    · simp only [Act.put, List.setIfInBounds_toArray, List.set_cons_zero, List.set_cons_succ, i64_w, i32_w]
      rfl
    refine one_ (i := 6) (N := none) #[true, true, true, true, true, true, true, false] rfl rfl (by kernel_rfl) (by decide) (fun K hK => ?_)
    have hf0 := blk_frozen h3 0
    have hf1 := blk_frozen h3 1
    have hc0 := (blk_cell h3 0).trans rfl
    have hc1 := (blk_cell h3 1).trans rfl
    refine skip_ (w1 := ?_) (by rfl) rfl ?_ ?_
    rotate_left
    · go_simp
      rfl
    refine hK.out _ _ ⟨((cell_far (p := ⟨w.heap.size + 1, _, none⟩) (by show w.heap.size + 1 + 1 ≠ w.heap.size + 1; omega) _).trans ((cell_far (p := ⟨w.heap.size + 1, _, none⟩) (by show w.heap.size + 1 + 1 ≠ w.heap.size + 1; omega) _).trans hHeld.1)), ((cell_far (p := ⟨w.heap.size + 1, _, none⟩) (by show w.heap.size + 1 + 1 ≠ w.heap.size + 1; omega) _).trans ((cell_far (p := ⟨w.heap.size + 1, _, none⟩) (by show w.heap.size + 1 + 1 ≠ w.heap.size + 1; omega) _).trans hHeld.2))⟩ (fun hHeld => ?_)
    clear hK K
    refine pure_ (i := 7) (N := some 5) (v := ?_) (a' := ?_) #[true, true, true, true, true, true, true, true] rfl rfl (by kernel_rfl) (fun _ _ _ h => h) (Or.inl ⟨by rfl, ?_⟩) ?_ ?_
    rotate_left
    · intro w'
      go_simp
      with_reducible rfl
    rotate_left
    · simp only [Act.put, List.setIfInBounds_toArray, List.set_cons_zero, List.set_cons_succ, i64_w, i32_w]
      rfl
    refine done_ (by kernel_rfl) ?_
    have n3 : Blk ((Wd.setCell ⟨w.heap.size + 1, 0, none⟩ (.int .i64 P1)).setCell ⟨w.heap.size + 1, 1, none⟩ (.int .i64 P2)) (w.heap.size + 1) #[.int .i64 P1, .int .i64 P2] 35 := blk_put (blk_put h3 0 _ rfl) 1 _ rfl
    have hK1 : ((Wd.setCell ⟨w.heap.size + 1, 0, none⟩ (.int .i64 P1)).setCell ⟨w.heap.size + 1, 1, none⟩ (.int .i64 P2)).heap[D]? = some (.deferred (some [])) :=
      (Below.heap_setCell _ _ _ D (by show D ≠ w.heap.size + 1; omega)).trans ((Below.heap_setCell _ _ _ D (by show D ≠ w.heap.size + 1; omega)).trans hK)
    have hB2 : Below w.heap.size w ((Wd.setCell ⟨w.heap.size + 1, 0, none⟩ (.int .i64 P1)).setCell ⟨w.heap.size + 1, 1, none⟩ (.int .i64 P2)) := (h4.setCell (p := ⟨w.heap.size + 1, 0, none⟩) (by show w.heap.size ≤ w.heap.size + 1; omega) _).setCell (p := ⟨w.heap.size + 1, 1, none⟩) (by show w.heap.size ≤ w.heap.size + 1; omega) _
    refine onlyN_normal ?_
    gi_wp2
    refine ⟨by simp, .inl ⟨_, _, rfl, run_takeDeferred hK1, ?_⟩⟩
    refine ⟨_, results_ct rfl _ _ (w.heap.size + 1) 35 #[.int .i64 P1, .int .i64 P2] (0, 0) _ rfl ((World.putObj_heap_other (by omega)).trans n3) Try.underlying35 rfl (by kernel_rfl), by rw [HR.out]; rfl, hB2.trans (belowK_b (w := w) (Nat.le_refl _) _ D _ _ (by omega) hK1 rfl rfl)⟩
  case stop =>
    rintro D c pre W hD _ h _
    exact h.elim
end Go.Proofs.Ytcjdhajdoikojaa.Clk
end
section
-- PRINTED by print.py (a twelfth state) out of the translation. Not trusted: Lean checks it.
namespace Go.Proofs.Ytcjdhajdoikojaa.Pr
open Go.RowKit Go.Proofs.YtcjdhajdoikojaaW.PrintWords Go.Proofs.YtcjdhajdoikojaaW.PrintLast Go.Proofs.YtcjdhajdoikojaaW.PrintMore
attribute [local go_sem] max2_int min2_int max_two min_two
set_option linter.unusedVariables false
set_option linter.unusedSimpArgs false

/-! ### clock_growth: function 94 -/
def clock_growth.f (a0 : Int) (a1 : Int) : Option (Int) := some (wrap64 ((wrap64 (a0 * (wrap64 (Int.tdiv (mx a1 (wrap64 (-a1))) 1000000000)))) + (wrap64 (Int.tdiv (wrap64 ((wrap64 ((wrap64 (a0 * (Int.tmod (mx a1 (wrap64 (-a1))) 1000000000))) + 1000000000)) - 1)) 1000000000))))
set_option maxHeartbeats 8000000 in
set_option maxRecDepth 100000 in
theorem clock_growth.calls (a0 : Int) (a1 : Int) (r : Int) (w : World) (h : clock_growth.f a0 a1 = some r) :
    Calls Try.prog 94 #[.int .i64 a0, .int .i64 a1] w fun e w' => e = .returned (.int .i64 r) ∧ Below w.heap.size w w' := by
  have HB := Aside0.mk (Below.refl w.heap.size w)
  have H : (some (wrap64 ((wrap64 (a0 * (wrap64 (Int.tdiv (mx a1 (wrap64 (-a1))) 1000000000)))) + (wrap64 (Int.tdiv (wrap64 ((wrap64 ((wrap64 (a0 * (Int.tmod (mx a1 (wrap64 (-a1))) 1000000000))) + 1000000000)) - 1)) 1000000000))))) = some r := h
  clear h
  obtain ⟨ji3, hji3⟩ : ∃ j_ : Int, (mx a1 (wrap64 (-a1))) = j_ := ⟨_, rfl⟩
  replace H : (some (wrap64 ((wrap64 (a0 * (wrap64 (Int.tdiv (ji3) 1000000000)))) + (wrap64 (Int.tdiv (wrap64 ((wrap64 ((wrap64 (a0 * (Int.tmod (ji3) 1000000000))) + 1000000000)) - 1)) 1000000000))))) = some r := by first | (rw [hji3] at H; exact H) | (simp only [hji3] at H ⊢; exact H)
  have hji3_ : (if a1 < (wrap64 (-a1)) then (wrap64 (-a1)) else a1) = ji3 := hji3
  obtain rfl := Option.some.inj H
  go_enter Try.func94, Try.ntmps94
  go_wp2
  go_ret
  exact ⟨by first | rfl | (simp [errW_none, errW_some] <;> rfl) | (simp only [← hji3]; first | rfl | (simp [errW_none, errW_some] <;> rfl)) | (simp [*, errW_none, errW_some] <;> rfl), by repeat (first | (with_reducible first | exact HB.out | apply below_alloc | apply pw_below_drewN | apply below_drew1) | exact HB.out)⟩

end Go.Proofs.Ytcjdhajdoikojaa.Pr
end
section
-- PRINTED by print.py (a twelfth state) out of the translation. Not trusted: Lean checks it.
namespace Go.Proofs.Ytcjdhajdoikojaa.Pr
open Go.RowKit Go.Proofs.YtcjdhajdoikojaaW.PrintWords Go.Proofs.YtcjdhajdoikojaaW.PrintLast Go.Proofs.YtcjdhajdoikojaaW.PrintMore
attribute [local go_sem] max2_int min2_int max_two min_two
set_option linter.unusedVariables false
set_option linter.unusedSimpArgs false

/-! ### clock_shift: function 93 -/
def clock_shift.f (a0_0 : Int) (a0_1 : Int) (a1 : Int) (a2 : Int) : Option (Int × Int) := some (wrap64 ((wrap64 (a0_0 + a1)) - a2), wrap64 ((wrap64 (a0_1 + a1)) + a2))
set_option maxHeartbeats 8000000 in
set_option maxRecDepth 100000 in
theorem clock_shift.calls (a0_0 : Int) (a0_1 : Int) (a1 : Int) (a2 : Int) (r1 : Int) (r2 : Int) (w : World) (h : clock_shift.f a0_0 a0_1 a1 a2 = some (r1, r2)) :
    Calls Try.prog 93 #[.agg #[.int .i64 a0_0, .int .i64 a0_1], .int .i64 a1, .int .i64 a2] w fun e w' => e = .returned (.agg #[.int .i64 r1, .int .i64 r2]) ∧ Below w.heap.size w w' := by
  have hu35 := Try.underlying35
  have HB := Aside0.mk (Below.refl w.heap.size w)
  have H : (some (wrap64 ((wrap64 (a0_0 + a1)) - a2), wrap64 ((wrap64 (a0_1 + a1)) + a2))) = some (r1, r2) := h
  clear h
  simp only [Option.some.injEq, Prod.mk.injEq] at H
  obtain ⟨rfl, rfl⟩ := H
  go_enter Try.func93, Try.ntmps93
  go_wp2_with (first | ((with_reducible refine gate_dst (N := 3) rfl ?_); refine box_event ?hg (N := 3) ?hd (cs := #[.int .i64 a0_0, .int .i64 a0_1]) (t := 35) ?hr ?_; (case hd => rfl); (case hg => rfl); (case hr => first | (go_simp; done) | (go_simp; rfl)); intro gb172 hg w4 hbox hb; have n0_ := Aside0.mk (below_step (by repeat (first | (with_reducible first | exact HB.out | apply below_alloc | apply pw_below_drewN | apply below_drew1) | exact HB.out)) hb); have n1_ := Aside0.mk (hbox); have n2_ := Aside0.mk ((by rw [hg]; exact (below_size (by repeat (first | (with_reducible first | exact HB.out | apply below_alloc | apply pw_below_drewN | apply below_drew1) | exact HB.out))) : w.heap.size ≤ gb172)); have n3_ := Aside0.mk ((by rw [hg]; exact (below_size (by repeat (first | (with_reducible first | exact HB.out | apply below_alloc | apply pw_below_drewN | apply below_drew1) | exact HB.out))) : w.heap.size ≤ gb172)); clear HB; have HB := n0_; have BK172 := n1_; have GW172 := n2_; have GE172 := n3_; clear n0_ n1_ n2_ n3_; clear hb hbox hg) | ((with_reducible refine gate_dst (N := 6) rfl ?_); refine box_event ?hg (N := 6) ?hd (cs := #[.int .i64 0, .int .i64 0]) (t := 35) ?hr ?_; (case hd => rfl); (case hg => rfl); (case hr => first | (go_simp; done) | (go_simp; rfl)); intro gb173 hg w5 hbox hb; have n0_ := Aside0.mk (blk_below (g := gb172) (o := .cells #[.int .i64 a0_0, .int .i64 a0_1] 35 (0, 0)) (by (with_reducible repeat (first | refine blk_drewN ?_ _ | refine blk_drew ?_ | refine blk_alloc ?_ _)); exact BK172.out) hb); have n1_ := Aside0.mk (below_step (by repeat (first | (with_reducible first | exact HB.out | apply below_alloc | apply pw_below_drewN | apply below_drew1 | refine below_set ?_ GE172.out) | exact HB.out)) hb); have n2_ := Aside0.mk (hbox); have n3_ := Aside0.mk ((by rw [hg]; exact (below_size (by repeat (first | (with_reducible first | exact HB.out | apply below_alloc | apply pw_below_drewN | apply below_drew1 | refine below_set ?_ GE172.out) | exact HB.out))) : w.heap.size ≤ gb173)); have n4_ := Aside0.mk ((by rw [hg]; exact (below_size (by repeat (first | (with_reducible first | exact HB.out | apply below_alloc | apply pw_below_drewN | apply below_drew1 | refine below_set ?_ GE172.out) | exact HB.out))) : w.heap.size ≤ gb173)); have n5_ := Aside0.mk ((by rw [hg]; exact Nat.ne_of_lt (blk_lt (g := gb172) (o := .cells #[.int .i64 a0_0, .int .i64 a0_1] 35 (0, 0)) (by (with_reducible repeat (first | refine blk_drewN ?_ _ | refine blk_drew ?_ | refine blk_alloc ?_ _)); exact BK172.out)) : gb172 ≠ gb173)); have n6_ := Aside0.mk ((by rw [hg]; exact Nat.ne_of_gt (blk_lt (g := gb172) (o := .cells #[.int .i64 a0_0, .int .i64 a0_1] 35 (0, 0)) (by (with_reducible repeat (first | refine blk_drewN ?_ _ | refine blk_drew ?_ | refine blk_alloc ?_ _)); exact BK172.out)) : gb173 ≠ gb172)); clear BK172; clear HB; have BK172 := n0_; have HB := n1_; have BK173 := n2_; have GW173 := n3_; have GE173 := n4_; have NB172_173 := n5_; have NB173_172 := n6_; clear n0_ n1_ n2_ n3_ n4_ n5_ n6_; clear hb hbox hg; have hnb6 := NB172_173.out; have hnc6 := NB173_172.out; have hcz7_0 : w5.cell? ⟨gb172, 0, none⟩ = some (.int .i64 a0_0) := (blk_cell BK172.out 0).trans rfl; have hcz7_1 : w5.cell? ⟨gb172, 1, none⟩ = some (.int .i64 a0_1) := (blk_cell BK172.out 1).trans rfl; have hfz7_0 := blk_frozen BK172.out 0; have hfz7_1 := blk_frozen BK172.out 1; have hcz8_0 : w5.cell? ⟨gb173, 0, none⟩ = some (.int .i64 0) := (blk_cell BK173.out 0).trans rfl; have hcz8_1 : w5.cell? ⟨gb173, 1, none⟩ = some (.int .i64 0) := (blk_cell BK173.out 1).trans rfl; have hfz8_0 := blk_frozen BK173.out 0; have hfz8_1 := blk_frozen BK173.out 1))
  refine bodyPost_ret (results_cell_row rfl _ _ gb173 35 #[.int .i64 (wrap64 ((wrap64 (a0_0 + a1)) - a2)), .int .i64 (wrap64 ((wrap64 (a0_1 + a1)) + a2))] (0, 0) _ rfl (by (with_reducible repeat (first | refine blk_drewN ?_ _ | refine blk_drew ?_ | refine blk_alloc ?_ _)); refine blk_put (cs := #[.int .i64 (wrap64 ((wrap64 (a0_0 + a1)) - a2)), .int .i64 0]) ?_ 1 _ rfl; (with_reducible repeat (first | refine blk_drewN ?_ _ | refine blk_drew ?_ | refine blk_alloc ?_ _)); refine blk_put (cs := #[.int .i64 0, .int .i64 0]) ?_ 0 _ rfl; (with_reducible repeat (first | refine blk_drewN ?_ _ | refine blk_drew ?_ | refine blk_alloc ?_ _)); exact BK173.out) Try.underlying35 rfl (by kernel_rfl)) rfl ?_
  exact ⟨by first | rfl | (simp [errW_none, errW_some] <;> rfl) | (simp [*, errW_none, errW_some] <;> rfl), by repeat (first | (with_reducible first | exact HB.out | apply below_alloc | apply pw_below_drewN | apply below_drew1 | refine below_set ?_ GE172.out | refine below_set ?_ GE173.out) | exact HB.out)⟩

end Go.Proofs.Ytcjdhajdoikojaa.Pr
end
section
-- PRINTED by print.py (a twelfth state) out of the translation. Not trusted: Lean checks it.
namespace Go.Proofs.Ytcjdhajdoikojaa.Pr
open Go.RowKit Go.Proofs.YtcjdhajdoikojaaW.PrintWords Go.Proofs.YtcjdhajdoikojaaW.PrintLast Go.Proofs.YtcjdhajdoikojaaW.PrintMore
attribute [local go_sem] max2_int min2_int max_two min_two
set_option linter.unusedVariables false
set_option linter.unusedSimpArgs false

/-! ### clock_itself: function 85 -/
def clock_itself.f (a0_0 : Int) (a0_1 : Int) : Option (Int × Int) := some (a0_0, a0_1)
set_option maxHeartbeats 8000000 in
set_option maxRecDepth 100000 in
theorem clock_itself.calls (a0_0 : Int) (a0_1 : Int) (r1 : Int) (r2 : Int) (w : World) (h : clock_itself.f a0_0 a0_1 = some (r1, r2)) :
    Calls Try.prog 85 #[.agg #[.int .i64 a0_0, .int .i64 a0_1]] w fun e w' => e = .returned (.agg #[.int .i64 r1, .int .i64 r2]) ∧ Below w.heap.size w w' := by
  have hu35 := Try.underlying35
  have HB := Aside0.mk (Below.refl w.heap.size w)
  have H : (some (a0_0, a0_1)) = some (r1, r2) := h
  clear h
  simp only [Option.some.injEq, Prod.mk.injEq] at H
  obtain ⟨rfl, rfl⟩ := H
  go_enter Try.func85, Try.ntmps85
  go_wp2_with (first | ((with_reducible refine gate_dst (N := 1) rfl ?_); refine box_event ?hg (N := 1) ?hd (cs := #[.int .i64 a0_0, .int .i64 a0_1]) (t := 35) ?hr ?_; (case hd => rfl); (case hg => rfl); (case hr => first | (go_simp; done) | (go_simp; rfl)); intro gb170 hg w2 hbox hb; have n0_ := Aside0.mk (below_step (by repeat (first | (with_reducible first | exact HB.out | apply below_alloc | apply pw_below_drewN | apply below_drew1) | exact HB.out)) hb); have n1_ := Aside0.mk (hbox); have n2_ := Aside0.mk ((by rw [hg]; exact (below_size (by repeat (first | (with_reducible first | exact HB.out | apply below_alloc | apply pw_below_drewN | apply below_drew1) | exact HB.out))) : w.heap.size ≤ gb170)); have n3_ := Aside0.mk ((by rw [hg]; exact (below_size (by repeat (first | (with_reducible first | exact HB.out | apply below_alloc | apply pw_below_drewN | apply below_drew1) | exact HB.out))) : w.heap.size ≤ gb170)); clear HB; have HB := n0_; have BK170 := n1_; have GW170 := n2_; have GE170 := n3_; clear n0_ n1_ n2_ n3_; clear hb hbox hg) | ((with_reducible refine gate_dst (N := 2) rfl ?_); refine box_event ?hg (N := 2) ?hd (cs := #[.int .i64 0, .int .i64 0]) (t := 35) ?hr ?_; (case hd => rfl); (case hg => rfl); (case hr => first | (go_simp; done) | (go_simp; rfl)); intro gb171 hg w3 hbox hb; have n0_ := Aside0.mk (blk_below (g := gb170) (o := .cells #[.int .i64 a0_0, .int .i64 a0_1] 35 (0, 0)) (by (with_reducible repeat (first | refine blk_drewN ?_ _ | refine blk_drew ?_ | refine blk_alloc ?_ _)); exact BK170.out) hb); have n1_ := Aside0.mk (below_step (by repeat (first | (with_reducible first | exact HB.out | apply below_alloc | apply pw_below_drewN | apply below_drew1 | refine below_set ?_ GE170.out) | exact HB.out)) hb); have n2_ := Aside0.mk (hbox); have n3_ := Aside0.mk ((by rw [hg]; exact (below_size (by repeat (first | (with_reducible first | exact HB.out | apply below_alloc | apply pw_below_drewN | apply below_drew1 | refine below_set ?_ GE170.out) | exact HB.out))) : w.heap.size ≤ gb171)); have n4_ := Aside0.mk ((by rw [hg]; exact (below_size (by repeat (first | (with_reducible first | exact HB.out | apply below_alloc | apply pw_below_drewN | apply below_drew1 | refine below_set ?_ GE170.out) | exact HB.out))) : w.heap.size ≤ gb171)); have n5_ := Aside0.mk ((by rw [hg]; exact Nat.ne_of_lt (blk_lt (g := gb170) (o := .cells #[.int .i64 a0_0, .int .i64 a0_1] 35 (0, 0)) (by (with_reducible repeat (first | refine blk_drewN ?_ _ | refine blk_drew ?_ | refine blk_alloc ?_ _)); exact BK170.out)) : gb170 ≠ gb171)); have n6_ := Aside0.mk ((by rw [hg]; exact Nat.ne_of_gt (blk_lt (g := gb170) (o := .cells #[.int .i64 a0_0, .int .i64 a0_1] 35 (0, 0)) (by (with_reducible repeat (first | refine blk_drewN ?_ _ | refine blk_drew ?_ | refine blk_alloc ?_ _)); exact BK170.out)) : gb171 ≠ gb170)); clear BK170; clear HB; have BK170 := n0_; have HB := n1_; have BK171 := n2_; have GW171 := n3_; have GE171 := n4_; have NB170_171 := n5_; have NB171_170 := n6_; clear n0_ n1_ n2_ n3_ n4_ n5_ n6_; clear hb hbox hg; have hnb4 := NB170_171.out; have hnc4 := NB171_170.out; have hcz5_0 : w3.cell? ⟨gb170, 0, none⟩ = some (.int .i64 a0_0) := (blk_cell BK170.out 0).trans rfl; have hcz5_1 : w3.cell? ⟨gb170, 1, none⟩ = some (.int .i64 a0_1) := (blk_cell BK170.out 1).trans rfl; have hfz5_0 := blk_frozen BK170.out 0; have hfz5_1 := blk_frozen BK170.out 1; have hcz6_0 : w3.cell? ⟨gb171, 0, none⟩ = some (.int .i64 0) := (blk_cell BK171.out 0).trans rfl; have hcz6_1 : w3.cell? ⟨gb171, 1, none⟩ = some (.int .i64 0) := (blk_cell BK171.out 1).trans rfl; have hfz6_0 := blk_frozen BK171.out 0; have hfz6_1 := blk_frozen BK171.out 1))
  refine bodyPost_ret (results_cell_row rfl _ _ gb171 35 #[.int .i64 a0_0, .int .i64 a0_1] (0, 0) _ rfl (by (with_reducible repeat (first | refine blk_drewN ?_ _ | refine blk_drew ?_ | refine blk_alloc ?_ _)); refine blk_put (cs := #[.int .i64 a0_0, .int .i64 0]) ?_ 1 _ rfl; (with_reducible repeat (first | refine blk_drewN ?_ _ | refine blk_drew ?_ | refine blk_alloc ?_ _)); refine blk_put (cs := #[.int .i64 0, .int .i64 0]) ?_ 0 _ rfl; (with_reducible repeat (first | refine blk_drewN ?_ _ | refine blk_drew ?_ | refine blk_alloc ?_ _)); exact BK171.out) Try.underlying35 rfl (by kernel_rfl)) rfl ?_
  exact ⟨by first | rfl | (simp [errW_none, errW_some] <;> rfl) | (simp [*, errW_none, errW_some] <;> rfl), by repeat (first | (with_reducible first | exact HB.out | apply below_alloc | apply pw_below_drewN | apply below_drew1 | refine below_set ?_ GE170.out | refine below_set ?_ GE171.out) | exact HB.out)⟩

end Go.Proofs.Ytcjdhajdoikojaa.Pr
end
section
/- An anchor as it is seen at another reading; the offset by an exchange: what the program computes. -/
namespace Go.Proofs.Ytcjdhajdoikojaa.Clk
open Go.RowKit Go.Shelf Go.Proofs.YtcjdhajdoikojaaW.PrintWords Go.Proofs.YtcjdhajdoikojaaW.PrintLast Go.Proofs.YtcjdhajdoikojaaW.PrintMore Go.Proofs.Ytcjdhajdoikojaa.Pr Go.Proofs.YtcjdhajdoikojaaW.Round
set_option linter.unusedVariables false
set_option linter.unusedSimpArgs false
attribute [local go_sem] max2_int min2_int max_two min_two
/-- The growth for a difference of readings, as the program computes it. -/
def growI (rate d : Int) : Int := (clock_growth.f rate d).getD 0
theorem growI_some (rate d : Int) : clock_growth.f rate d = some (growI rate d) := rfl
/-- A span that is moved and grown. -/
def shiftI (a : S35) (by_ grow : Int) : S35 := ⟨wrap64 (wrap64 (a.f0 + by_) - grow), wrap64 (wrap64 (a.f1 + by_) + grow)⟩
theorem shift_any (a : S35) (by_ grow : Int) (w : World) :
    Calls Try.prog 93 #[.agg #[.int .i64 a.f0, .int .i64 a.f1], .int .i64 by_, .int .i64 grow] w fun e w' => e = .returned (.agg #[.int .i64 (shiftI a by_ grow).f0, .int .i64 (shiftI a by_ grow).f1]) ∧ Below w.heap.size w w' :=
  clock_shift.calls _ _ _ _ _ _ w rfl
theorem growth_any (rate d : Int) (w : World) : Calls Try.prog 94 #[.int .i64 rate, .int .i64 d] w fun e w' => e = .returned (.int .i64 (growI rate d)) ∧ Below w.heap.size w w' := clock_growth.calls _ _ _ w (growI_some _ _)
/-- A clock with its anchors, in memory. -/
def FaceAt (W : World) (b : Nat) (par rate : Int) (ys : List S105) : Prop := ∃ A c, Blk W b #[.int .i64 par, .int .i64 rate, .slice A ys.length c] 109 ∧ ys.length ≤ c ∧ Kd.C k105 W A ys.length ys
theorem FaceAt.below {W W1 : World} {b : Nat} {par rate : Int} {ys : List S105} (h : FaceAt W b par rate ys) (hb : Below W.heap.size W W1) : FaceAt W1 b par rate ys := by
  obtain ⟨A, c, h1, h2, h3⟩ := h
  exact ⟨A, c, h1.below hb, h2, Kd.C_below h3 hb⟩
theorem FaceAt.lt {W : World} {b : Nat} {par rate : Int} {ys : List S105} (h : FaceAt W b par rate ys) : b < W.heap.size := by
  obtain ⟨A, c, h1, _⟩ := h
  exact (Array.getElem?_eq_some_iff.1 h1).1

/-- An anchor as it is seen at another reading. -/
def seenI (rate : Int) (a : S105) (t : Int) : S35 := shiftI a.f0 0 (growI rate (wrap64 (t - a.f1)))

set_option maxRecDepth 100000 in
set_option maxHeartbeats 2000000 in
theorem seen_any (b : Nat) (par rate : Int) (ys : List S105) (a : S105) (t : Int) (w : World) (hF : FaceAt w b par rate ys) :
    Calls Try.prog 90 #[.pointer (some ⟨b, 0, none⟩), .agg #[.int .i64 a.f0.f0, .int .i64 a.f0.f1, .int .i64 a.f1], .int .i64 t] w fun e w' =>
      e = .returned (.agg #[.int .i64 (seenI rate a t).f0, .int .i64 (seenI rate a t).f1]) ∧ Below w.heap.size w w' := by
  have hu35 := Try.underlying35
  have hu105 := Try.underlying105
  have hu109 := Try.underlying109
  have hlt := hF.lt
  obtain ⟨A, c, mf, _, _⟩ := hF
  go_enter Try.func90, Try.ntmps90
  go_wp2
  have m1 : Blk ((w.alloc (.cells #[.int .i64 a.f0.f0, .int .i64 a.f0.f1, .int .i64 a.f1] 105)).alloc (.cells #[.int .i64 0, .int .i64 0] 35)) w.heap.size #[.int .i64 a.f0.f0, .int .i64 a.f0.f1, .int .i64 a.f1] 105 := blk_alloc (blk_new w _) _
  have m2 : Blk ((w.alloc (.cells #[.int .i64 a.f0.f0, .int .i64 a.f0.f1, .int .i64 a.f1] 105)).alloc (.cells #[.int .i64 0, .int .i64 0] 35)) (w.heap.size + 1) #[.int .i64 0, .int .i64 0] 35 := by
    have := blk_new (w.alloc (.cells #[.int .i64 a.f0.f0, .int .i64 a.f0.f1, .int .i64 a.f1] 105)) (.cells #[.int .i64 0, .int .i64 0] 35)
    rwa [World.size_alloc] at this
  have mB : Below w.heap.size w ((w.alloc (.cells #[.int .i64 a.f0.f0, .int .i64 a.f0.f1, .int .i64 a.f1] 105)).alloc (.cells #[.int .i64 0, .int .i64 0] 35)) := below_alloc (below_alloc (Below.refl _ _) _) _
  replace mf : Blk ((w.alloc (.cells #[.int .i64 a.f0.f0, .int .i64 a.f0.f1, .int .i64 a.f1] 105)).alloc (.cells #[.int .i64 0, .int .i64 0] 35)) b #[.int .i64 par, .int .i64 rate, .slice A ys.length c] 109 := blk_alloc (blk_alloc mf _) _
  replace m1 := blk_drew m1
  replace m2 := blk_drew m2
  replace mf := blk_drew mf
  replace mB := below_drew1 mB
  generalize hg4 : w.heap.size = gb4 at m1 m2 ⊢
  have hn1 : gb4 ≠ gb4 + 1 := by omega
  have hn2 : b ≠ gb4 + 1 := by omega
  have hG : w.heap.size ≤ gb4 + 1 := by omega
  generalize hg6 : gb4 + 1 = gb6 at m2 hn1 hn2 hG ⊢
  clear hg6
  refine start_ (n := 13) (S := fun w' => w'.cell? ⟨gb4, 0, none⟩ = some (.int .i64 a.f0.f0) ∧ w'.cell? ⟨gb4, 1, none⟩ = some (.int .i64 a.f0.f1) ∧ w'.cell? ⟨gb4, 2, none⟩ = some (.int .i64 a.f1) ∧ w'.cell? ⟨b, 1, none⟩ = some (.int .i64 rate)) (ds := []) #[false, false, false, false, false, false, false, false, false, false, false, false, false] (by kernel_rfl) rfl rfl ⟨(blk_cell m1 0).trans rfl, (blk_cell m1 1).trans rfl, (blk_cell m1 2).trans rfl, (blk_cell mf 1).trans rfl⟩ (fun hHeld => ?_)
  generalize hWd : World.drew _ = Wd at *
  clear hWd
  refine pure_ (i := 0) (N := some 7) (v := ?_) (a' := ?_) #[true, false, false, false, false, false, false, false, false, false, false, false, false] rfl rfl (by kernel_rfl) (fun _ _ _ h => h) (Or.inl ⟨by rfl, ?_⟩) ?_ ?_
  rotate_left
  · intro w'
    go_simp
    with_reducible rfl
  rotate_left
  · simp only [Act.put, List.setIfInBounds_toArray, List.set_cons_zero, List.set_cons_succ, i64_w, i32_w]
    rfl
  refine pure_ (i := 2) (N := some 9) (v := ?_) (a' := ?_) #[true, false, true, false, false, false, false, false, false, false, false, false, false] rfl rfl (by kernel_rfl) (fun _ _ _ h => h) (Or.inl ⟨by rfl, ?_⟩) ?_ ?_
  rotate_left
  · intro w'
    go_simp
    with_reducible rfl
  rotate_left
  · simp only [Act.put, List.setIfInBounds_toArray, List.set_cons_zero, List.set_cons_succ, i64_w, i32_w]
    rfl
  refine pure_ (i := 3) (N := some 10) (v := ?_) (a' := ?_) #[true, false, true, true, false, false, false, false, false, false, false, false, false] rfl rfl (by kernel_rfl) (fun _ _ _ h => h) (Or.inl ⟨by rfl, ?_⟩) ?_ ?_
  rotate_left
  · intro w'
    go_simp
    with_reducible rfl
  rotate_left
  · simp only [Act.put, List.setIfInBounds_toArray, List.set_cons_zero, List.set_cons_succ, i64_w, i32_w]
    rfl
  refine pure_ (i := 4) (N := some 11) (v := ?_) (a' := ?_) #[true, false, true, true, true, false, false, false, false, false, false, false, false] rfl rfl (by kernel_rfl) (fun _ _ _ h => h) (Or.inl ⟨by rfl, ?_⟩) ?_ ?_
  rotate_left
  · intro w'
    go_simp
    with_reducible rfl
  rotate_left
  · simp only [Act.put, List.setIfInBounds_toArray, List.set_cons_zero, List.set_cons_succ, i64_w, i32_w]
    rfl
  refine pure_ (i := 6) (N := some 13) (v := ?_) (a' := ?_) #[true, false, true, true, true, false, true, false, false, false, false, false, false] rfl rfl (by kernel_rfl) (fun _ _ _ h => h) (Or.inl ⟨by rfl, ?_⟩) ?_ ?_
  rotate_left
  · intro w'
    go_simp
    with_reducible rfl
  rotate_left
  · simp only [Act.put, List.setIfInBounds_toArray, List.set_cons_zero, List.set_cons_succ, i64_w, i32_w]
    rfl
  refine pure_ (i := 7) (N := some 14) (v := ?_) (a' := ?_) #[true, false, true, true, true, false, true, true, false, false, false, false, false] rfl rfl (by kernel_rfl) (fun _ _ _ h => h) (Or.inl ⟨by rfl, ?_⟩) ?_ ?_
  rotate_left
  · intro w'
    go_simp
    with_reducible rfl
  rotate_left
  · simp only [Act.put, List.setIfInBounds_toArray, List.set_cons_zero, List.set_cons_succ, i64_w, i32_w]
    rfl
  refine take_ (i := 1) (N := some 8) (v := ?_) (a' := ?_) #[true, true, true, true, true, false, true, true, false, false, false, false, false] rfl rfl (by kernel_rfl) (fun _ _ _ h => h) (Or.inl ⟨by rfl, ?_⟩) hHeld ?_ ?_
  rotate_left
  · rintro w' ⟨s0, s1, s2, s3⟩
    go_simp
    with_reducible rfl
  rotate_left
  · simp only [Act.put, List.setIfInBounds_toArray, List.set_cons_zero, List.set_cons_succ, i64_w, i32_w]
    rfl
  refine take_ (i := 5) (N := some 12) (v := ?_) (a' := ?_) #[true, true, true, true, true, true, true, true, false, false, false, false, false] rfl rfl (by kernel_rfl) (fun _ _ _ h => h) (Or.inl ⟨by rfl, ?_⟩) hHeld ?_ ?_
  rotate_left
  · rintro w' ⟨s0, s1, s2, s3⟩
    go_simp
    with_reducible rfl
  rotate_left
  · simp only [Act.put, List.setIfInBounds_toArray, List.set_cons_zero, List.set_cons_succ, i64_w, i32_w]
    rfl
  refine take_ (i := 8) (N := some 15) (v := ?_) (a' := ?_) #[true, true, true, true, true, true, true, true, true, false, false, false, false] rfl rfl (by kernel_rfl) (fun _ _ _ h => h) (Or.inl ⟨by rfl, ?_⟩) hHeld ?_ ?_
  rotate_left
  · rintro w' ⟨s0, s1, s2, s3⟩
    go_simp
    with_reducible rfl
  rotate_left
  · simp only [Act.put, List.setIfInBounds_toArray, List.set_cons_zero, List.set_cons_succ, i64_w, i32_w]
    rfl
  refine pure_ (i := 9) (N := some 16) (v := ?_) (a' := ?_) #[true, true, true, true, true, true, true, true, true, true, false, false, false] rfl rfl (by kernel_rfl) (fun _ _ _ h => h) (Or.inl ⟨by rfl, ?_⟩) ?_ ?_
  rotate_left
  · intro w'
    go_simp
    with_reducible rfl
  rotate_left
  · simp only [Act.put, List.setIfInBounds_toArray, List.set_cons_zero, List.set_cons_succ, i64_w, i32_w]
    rfl
  refine one_ (i := 10) (N := some 17) #[true, true, true, true, true, true, true, true, true, true, true, false, false] rfl rfl (by kernel_rfl) (by decide) (fun K hK => ?_)
  refine goes_ Try.func94 (by kernel_rfl) rfl #[.int .i64 rate, .int .i64 (wrap64 (t - a.f1))] (by rfl) rfl rfl (by simp only [List.map_toArray, List.map_cons, List.map_nil]; rfl) ?_
  with_reducible refine (growth_any rate (wrap64 (t - a.f1)) _).mono ?_
  rintro e w5 ⟨rfl, hb⟩
  refine ⟨_, rfl, ?_⟩
  replace m1 := blk_below m1 hb
  replace m2 := blk_below m2 hb
  replace mf := blk_below mf hb
  replace mB := below_step mB hb
  clear hb
  refine hK.out _ _ ⟨(blk_cell m1 0).trans rfl, (blk_cell m1 1).trans rfl, (blk_cell m1 2).trans rfl, (blk_cell mf 1).trans rfl⟩ (fun hHeld => ?_)
  clear hK K
  refine norm_ (a' := ?_) ?_ ?_
  rotate_left
  · show Act.put _ (some 17) _ = _
    simp only [Act.put, List.setIfInBounds_toArray, List.set_cons_zero, List.set_cons_succ, i64_w, i32_w]
    rfl
  refine one_ (i := 11) (N := some 18) #[true, true, true, true, true, true, true, true, true, true, true, true, false] rfl rfl (by kernel_rfl) (by decide) (fun K hK => ?_)
  refine goes_ Try.func93 (by kernel_rfl) rfl #[.agg #[.int .i64 a.f0.f0, .int .i64 a.f0.f1], .int .i64 0, .int .i64 (growI rate (wrap64 (t - a.f1)))] (by rfl) rfl rfl (by simp only [List.map_toArray, List.map_cons, List.map_nil]; rfl) ?_
  with_reducible refine (shift_any a.f0 0 (growI rate (wrap64 (t - a.f1))) _).mono ?_
  rintro e w6 ⟨rfl, hb⟩
  refine ⟨_, rfl, ?_⟩
  replace m1 := blk_below m1 hb
  replace m2 := blk_below m2 hb
  replace mf := blk_below mf hb
  replace mB := below_step mB hb
  clear hb
  refine hK.out _ _ ⟨(blk_cell m1 0).trans rfl, (blk_cell m1 1).trans rfl, (blk_cell m1 2).trans rfl, (blk_cell mf 1).trans rfl⟩ (fun hHeld => ?_)
  clear hK K
  refine norm_ (a' := ?_) ?_ ?_
  rotate_left
  · show Act.put _ (some 18) _ = _
    simp only [Act.put, List.setIfInBounds_toArray, List.set_cons_zero, List.set_cons_succ, i64_w, i32_w]
    rfl
  refine one_ (i := 12) (N := none) #[true, true, true, true, true, true, true, true, true, true, true, true, true] rfl rfl (by kernel_rfl) (by decide) (fun K hK => ?_)
  have hf0 := blk_frozen m2 0
  have hf1 := blk_frozen m2 1
  have hc0 := (blk_cell m2 0).trans rfl
  have hc1 := (blk_cell m2 1).trans rfl
  refine skip_ (w1 := ?_) (by rfl) rfl ?_ ?_
  rotate_left
  · go_simp
    rfl
  refine hK.out _ _ ⟨((cell_far (p := ⟨gb6, _, none⟩) hn1 _).trans ((cell_far (p := ⟨gb6, _, none⟩) hn1 _).trans hHeld.1)), ((cell_far (p := ⟨gb6, _, none⟩) hn1 _).trans ((cell_far (p := ⟨gb6, _, none⟩) hn1 _).trans hHeld.2.1)), ((cell_far (p := ⟨gb6, _, none⟩) hn1 _).trans ((cell_far (p := ⟨gb6, _, none⟩) hn1 _).trans hHeld.2.2.1)), ((cell_far (p := ⟨gb6, _, none⟩) hn2 _).trans ((cell_far (p := ⟨gb6, _, none⟩) hn2 _).trans hHeld.2.2.2))⟩ (fun hHeld => ?_)
  clear hK K
  refine done_ (by kernel_rfl) ?_
  go_wp2
  exact bodyPost_ret (results_cell_row rfl _ _ gb6 35 #[.int .i64 (seenI rate a t).f0, .int .i64 (seenI rate a t).f1] (0, 0) _ rfl (blk_put (blk_put m2 0 _ rfl) 1 _ rfl) Try.underlying35 rfl (by kernel_rfl)) rfl ⟨rfl, (mB.setCell hG _).setCell hG _⟩

/-- What an exchange says: what was heard, and what was answered. -/
def forthI (x : S46) (rate : Int) : S35 := shiftI ⟨wrap64 (-x.f4.f1), wrap64 (-x.f4.f0)⟩ (wrap64 (x.f1 - x.f0)) (growI rate (wrap64 (x.f3 - x.f0)))
def homeI (x : S46) : S35 := shiftI x.f5 (wrap64 (x.f2 - x.f3)) 0
def offsetI (x : S46) (rate : Int) : Int × Int := meetF [forthI x rate, homeI x]

theorem itself_span {B : World} (y : S35) (W : World) (_ : Below B.heap.size B W) : Calls Try.prog 85 (#[enc35 y] ++ #[]) W fun e W' => e = .returned (enc35 (id y)) ∧ Below W.heap.size W W' := by
  rw [Array.append_empty]
  exact clock_itself.calls _ _ _ _ W rfl
/-- A row of two spans. -/
theorem C_two {W : World} {b : Nat} {x y : S35} (h : Blk W b #[.int .i64 x.f0, .int .i64 x.f1, .int .i64 y.f0, .int .i64 y.f1] 35) : Kd.C k35 W (some ⟨b, 0, none⟩) 2 [x, y] := by
  refine ⟨rfl, by decide, fun _ => ⟨⟨b, 0, none⟩, rfl, fun j p hj => ?_⟩⟩
  match j, hj with
  | 0, hj =>
    obtain rfl : x = p := by simpa using hj
    refine ⟨_, rfl, k35_mk W x, fun i u hu => ?_⟩
    match i, hu with
    | 0, hu => exact ((blk_cell h 0).trans (by simpa using hu))
    | 1, hu => exact ((blk_cell h 1).trans (by simpa using hu))
  | 1, hj =>
    obtain rfl : y = p := by simpa using hj
    refine ⟨_, rfl, k35_mk W y, fun i u hu => ?_⟩
    match i, hu with
    | 0, hu => exact ((blk_cell h 2).trans (by simpa using hu))
    | 1, hu => exact ((blk_cell h 3).trans (by simpa using hu))

set_option maxRecDepth 100000 in
set_option maxHeartbeats 4000000 in
theorem offset_any (x : S46) (rate : Int) (w : World) :
    Calls Try.prog 66 #[.agg #[.int .i64 x.f0, .int .i64 x.f1, .int .i64 x.f2, .int .i64 x.f3, .int .i64 x.f4.f0, .int .i64 x.f4.f1, .int .i64 x.f5.f0, .int .i64 x.f5.f1], .int .i64 rate] w fun e w' =>
      e = .returned (.tuple #[.agg #[.int .i64 (offsetI x rate).1, .int .i64 (offsetI x rate).2], .bool (decide ((offsetI x rate).1 ≤ (offsetI x rate).2))]) ∧ Below w.heap.size w w' := by
  have hu35 := Try.underlying35
  have hu46 := Try.underlying46
  go_enter Try.func66, Try.ntmps66
  go_wp2
  have m2 : Blk ((w.alloc (.cells #[.int .i64 x.f0, .int .i64 x.f1, .int .i64 x.f2, .int .i64 x.f3, .int .i64 x.f4.f0, .int .i64 x.f4.f1, .int .i64 x.f5.f0, .int .i64 x.f5.f1] 46)).alloc (.cells #[.int .i64 0, .int .i64 0] 35)) (w.heap.size) #[.int .i64 x.f0, .int .i64 x.f1, .int .i64 x.f2, .int .i64 x.f3, .int .i64 x.f4.f0, .int .i64 x.f4.f1, .int .i64 x.f5.f0, .int .i64 x.f5.f1] 46 := (blk_alloc (by have h_ := blk_new w (.cells #[.int .i64 x.f0, .int .i64 x.f1, .int .i64 x.f2, .int .i64 x.f3, .int .i64 x.f4.f0, .int .i64 x.f4.f1, .int .i64 x.f5.f0, .int .i64 x.f5.f1] 46); first | exact h_ | (simp only [World.size_alloc] at h_; exact h_)) _)
  have m4 : Blk ((w.alloc (.cells #[.int .i64 x.f0, .int .i64 x.f1, .int .i64 x.f2, .int .i64 x.f3, .int .i64 x.f4.f0, .int .i64 x.f4.f1, .int .i64 x.f5.f0, .int .i64 x.f5.f1] 46)).alloc (.cells #[.int .i64 0, .int .i64 0] 35)) (w.heap.size + 1) #[.int .i64 0, .int .i64 0] 35 := (by have h_ := blk_new (w.alloc (.cells #[.int .i64 x.f0, .int .i64 x.f1, .int .i64 x.f2, .int .i64 x.f3, .int .i64 x.f4.f0, .int .i64 x.f4.f1, .int .i64 x.f5.f0, .int .i64 x.f5.f1] 46)) (.cells #[.int .i64 0, .int .i64 0] 35); first | exact h_ | (simp only [World.size_alloc] at h_; exact h_))
  have mB : Below w.heap.size w ((w.alloc (.cells #[.int .i64 x.f0, .int .i64 x.f1, .int .i64 x.f2, .int .i64 x.f3, .int .i64 x.f4.f0, .int .i64 x.f4.f1, .int .i64 x.f5.f0, .int .i64 x.f5.f1] 46)).alloc (.cells #[.int .i64 0, .int .i64 0] 35)) := (below_alloc (below_alloc (Below.refl w.heap.size w) _) _)
  have hsz_ : w.heap.size ≤ w.heap.size := Nat.le_refl _
  generalize hW_ : ((w.alloc (.cells #[.int .i64 x.f0, .int .i64 x.f1, .int .i64 x.f2, .int .i64 x.f3, .int .i64 x.f4.f0, .int .i64 x.f4.f1, .int .i64 x.f5.f0, .int .i64 x.f5.f1] 46)).alloc (.cells #[.int .i64 0, .int .i64 0] 35)) = W1 at m2 m4 mB ⊢
  clear hW_
  generalize hg2 : w.heap.size = g2 at m2 m4 ⊢
  have hG2 : w.heap.size ≤ g2 := by omega
  generalize hg4 : g2 + 1 = g4 at m4 ⊢
  have hn_2_4 : g2 ≠ g4 := by omega
  have hn_4_2 : g4 ≠ g2 := hn_2_4.symm
  have hG4 : w.heap.size ≤ g4 := by omega
  clear hsz_
  try clear hg4
  try clear hg2
  have hs_W1 : w.heap.size ≤ W1.heap.size := mB.size
  replace m2 := blk_drew m2
  replace m4 := blk_drew m4
  replace mB := below_drew1 mB
  refine start_ (n := 24) (S := fun w' => w'.cell? ⟨g2, 0, none⟩ = some (.int .i64 x.f0) ∧ w'.cell? ⟨g2, 1, none⟩ = some (.int .i64 x.f1) ∧ w'.cell? ⟨g2, 2, none⟩ = some (.int .i64 x.f2) ∧ w'.cell? ⟨g2, 3, none⟩ = some (.int .i64 x.f3) ∧ w'.cell? ⟨g2, 4, none⟩ = some (.int .i64 x.f4.f0) ∧ w'.cell? ⟨g2, 5, none⟩ = some (.int .i64 x.f4.f1) ∧ w'.cell? ⟨g2, 6, none⟩ = some (.int .i64 x.f5.f0) ∧ w'.cell? ⟨g2, 7, none⟩ = some (.int .i64 x.f5.f1)) (ds := []) #[false, false, false, false, false, false, false, false, false, false, false, false, false, false, false, false, false, false, false, false, false, false, false, false] (by kernel_rfl) rfl rfl ⟨((blk_cell m2 0).trans rfl), ((blk_cell m2 1).trans rfl), ((blk_cell m2 2).trans rfl), ((blk_cell m2 3).trans rfl), ((blk_cell m2 4).trans rfl), ((blk_cell m2 5).trans rfl), ((blk_cell m2 6).trans rfl), ((blk_cell m2 7).trans rfl)⟩ (fun hHeld => ?_)
  generalize hWd : World.drew _ = Wd at *
  clear hWd
  refine pure_ (i := 0) (N := some 8) (v := ?_) (a' := ?_) #[true, false, false, false, false, false, false, false, false, false, false, false, false, false, false, false, false, false, false, false, false, false, false, false] rfl rfl (by kernel_rfl) (fun _ _ _ h => h) (Or.inl ⟨by rfl, ?_⟩) ?_ ?_
  rotate_left
  · intro w'
    go_simp
    with_reducible rfl
  rotate_left
  · simp only [Act.put, List.setIfInBounds_toArray, List.set_cons_zero, List.set_cons_succ, i64_w, i32_w]
    rfl
  refine pure_ (i := 1) (N := some 9) (v := ?_) (a' := ?_) #[true, true, false, false, false, false, false, false, false, false, false, false, false, false, false, false, false, false, false, false, false, false, false, false] rfl rfl (by kernel_rfl) (fun _ _ _ h => h) (Or.inl ⟨by rfl, ?_⟩) ?_ ?_
  rotate_left
  · intro w'
    go_simp
    with_reducible rfl
  rotate_left
  · simp only [Act.put, List.setIfInBounds_toArray, List.set_cons_zero, List.set_cons_succ, i64_w, i32_w]
    rfl
  refine pure_ (i := 4) (N := some 12) (v := ?_) (a' := ?_) #[true, true, false, false, true, false, false, false, false, false, false, false, false, false, false, false, false, false, false, false, false, false, false, false] rfl rfl (by kernel_rfl) (fun _ _ _ h => h) (Or.inl ⟨by rfl, ?_⟩) ?_ ?_
  rotate_left
  · intro w'
    go_simp
    with_reducible rfl
  rotate_left
  · simp only [Act.put, List.setIfInBounds_toArray, List.set_cons_zero, List.set_cons_succ, i64_w, i32_w]
    rfl
  refine pure_ (i := 5) (N := some 13) (v := ?_) (a' := ?_) #[true, true, false, false, true, true, false, false, false, false, false, false, false, false, false, false, false, false, false, false, false, false, false, false] rfl rfl (by kernel_rfl) (fun _ _ _ h => h) (Or.inl ⟨by rfl, ?_⟩) ?_ ?_
  rotate_left
  · intro w'
    go_simp
    with_reducible rfl
  rotate_left
  · simp only [Act.put, List.setIfInBounds_toArray, List.set_cons_zero, List.set_cons_succ, i64_w, i32_w]
    rfl
  refine pure_ (i := 9) (N := some 17) (v := ?_) (a' := ?_) #[true, true, false, false, true, true, false, false, false, true, false, false, false, false, false, false, false, false, false, false, false, false, false, false] rfl rfl (by kernel_rfl) (fun _ _ _ h => h) (Or.inl ⟨by rfl, ?_⟩) ?_ ?_
  rotate_left
  · intro w'
    go_simp
    with_reducible rfl
  rotate_left
  · simp only [Act.put, List.setIfInBounds_toArray, List.set_cons_zero, List.set_cons_succ, i64_w, i32_w]
    rfl
  refine pure_ (i := 11) (N := some 19) (v := ?_) (a' := ?_) #[true, true, false, false, true, true, false, false, false, true, false, true, false, false, false, false, false, false, false, false, false, false, false, false] rfl rfl (by kernel_rfl) (fun _ _ _ h => h) (Or.inl ⟨by rfl, ?_⟩) ?_ ?_
  rotate_left
  · intro w'
    go_simp
    with_reducible rfl
  rotate_left
  · simp only [Act.put, List.setIfInBounds_toArray, List.set_cons_zero, List.set_cons_succ, i64_w, i32_w]
    rfl
  refine pure_ (i := 14) (N := some 22) (v := ?_) (a' := ?_) #[true, true, false, false, true, true, false, false, false, true, false, true, false, false, true, false, false, false, false, false, false, false, false, false] rfl rfl (by kernel_rfl) (fun _ _ _ h => h) (Or.inl ⟨by rfl, ?_⟩) ?_ ?_
  rotate_left
  · intro w'
    go_simp
    with_reducible rfl
  rotate_left
  · simp only [Act.put, List.setIfInBounds_toArray, List.set_cons_zero, List.set_cons_succ, i64_w, i32_w]
    rfl
  refine pure_ (i := 15) (N := some 23) (v := ?_) (a' := ?_) #[true, true, false, false, true, true, false, false, false, true, false, true, false, false, true, true, false, false, false, false, false, false, false, false] rfl rfl (by kernel_rfl) (fun _ _ _ h => h) (Or.inl ⟨by rfl, ?_⟩) ?_ ?_
  rotate_left
  · intro w'
    go_simp
    with_reducible rfl
  rotate_left
  · simp only [Act.put, List.setIfInBounds_toArray, List.set_cons_zero, List.set_cons_succ, i64_w, i32_w]
    rfl
  refine pure_ (i := 17) (N := some 25) (v := ?_) (a' := ?_) #[true, true, false, false, true, true, false, false, false, true, false, true, false, false, true, true, false, true, false, false, false, false, false, false] rfl rfl (by kernel_rfl) (fun _ _ _ h => h) (Or.inl ⟨by rfl, ?_⟩) ?_ ?_
  rotate_left
  · intro w'
    go_simp
    with_reducible rfl
  rotate_left
  · simp only [Act.put, List.setIfInBounds_toArray, List.set_cons_zero, List.set_cons_succ, i64_w, i32_w]
    rfl
  refine take_ (i := 2) (N := some 10) (v := ?_) (a' := ?_) #[true, true, true, false, true, true, false, false, false, true, false, true, false, false, true, true, false, true, false, false, false, false, false, false] rfl rfl (by kernel_rfl) (fun _ _ _ h => h) (Or.inl ⟨by rfl, ?_⟩) hHeld ?_ ?_
  rotate_left
  · rintro w' ⟨s0, s1, s2, s3, s4, s5, s6, s7⟩
    go_simp
    with_reducible rfl
  rotate_left
  · simp only [Act.put, List.setIfInBounds_toArray, List.set_cons_zero, List.set_cons_succ, i64_w, i32_w]
    rfl
  refine pure_ (i := 3) (N := some 11) (v := ?_) (a' := ?_) #[true, true, true, true, true, true, false, false, false, true, false, true, false, false, true, true, false, true, false, false, false, false, false, false] rfl rfl (by kernel_rfl) (fun _ _ _ h => h) (Or.inl ⟨by rfl, ?_⟩) ?_ ?_
  rotate_left
  · intro w'
    go_simp
    with_reducible rfl
  rotate_left
  · simp only [Act.put, List.setIfInBounds_toArray, List.set_cons_zero, List.set_cons_succ, i64_w, i32_w]
    rfl
  refine take_ (i := 6) (N := some 14) (v := ?_) (a' := ?_) #[true, true, true, true, true, true, true, false, false, true, false, true, false, false, true, true, false, true, false, false, false, false, false, false] rfl rfl (by kernel_rfl) (fun _ _ _ h => h) (Or.inl ⟨by rfl, ?_⟩) hHeld ?_ ?_
  rotate_left
  · rintro w' ⟨s0, s1, s2, s3, s4, s5, s6, s7⟩
    go_simp
    with_reducible rfl
  rotate_left
  · simp only [Act.put, List.setIfInBounds_toArray, List.set_cons_zero, List.set_cons_succ, i64_w, i32_w]
    rfl
  refine pure_ (i := 7) (N := some 15) (v := ?_) (a' := ?_) #[true, true, true, true, true, true, true, true, false, true, false, true, false, false, true, true, false, true, false, false, false, false, false, false] rfl rfl (by kernel_rfl) (fun _ _ _ h => h) (Or.inl ⟨by rfl, ?_⟩) ?_ ?_
  rotate_left
  · intro w'
    go_simp
    with_reducible rfl
  rotate_left
  · simp only [Act.put, List.setIfInBounds_toArray, List.set_cons_zero, List.set_cons_succ, i64_w, i32_w]
    rfl
  refine pure_ (i := 8) (N := some 16) (v := ?_) (a' := ?_) #[true, true, true, true, true, true, true, true, true, true, false, true, false, false, true, true, false, true, false, false, false, false, false, false] rfl rfl (by kernel_rfl) (fun _ _ _ h => h) (Or.inl ⟨by rfl, ?_⟩) ?_ ?_
  rotate_left
  · intro w'
    go_simp
    with_reducible rfl
  rotate_left
  · simp only [Act.put, List.setIfInBounds_toArray, List.set_cons_zero, List.set_cons_succ, i64_w, i32_w]
    rfl
  refine take_ (i := 10) (N := some 18) (v := ?_) (a' := ?_) #[true, true, true, true, true, true, true, true, true, true, true, true, false, false, true, true, false, true, false, false, false, false, false, false] rfl rfl (by kernel_rfl) (fun _ _ _ h => h) (Or.inl ⟨by rfl, ?_⟩) hHeld ?_ ?_
  rotate_left
  · rintro w' ⟨s0, s1, s2, s3, s4, s5, s6, s7⟩
    go_simp
    with_reducible rfl
  rotate_left
  · simp only [Act.put, List.setIfInBounds_toArray, List.set_cons_zero, List.set_cons_succ, i64_w, i32_w]
    rfl
  refine take_ (i := 12) (N := some 20) (v := ?_) (a' := ?_) #[true, true, true, true, true, true, true, true, true, true, true, true, true, false, true, true, false, true, false, false, false, false, false, false] rfl rfl (by kernel_rfl) (fun _ _ _ h => h) (Or.inl ⟨by rfl, ?_⟩) hHeld ?_ ?_
  rotate_left
  · rintro w' ⟨s0, s1, s2, s3, s4, s5, s6, s7⟩
    go_simp
    with_reducible rfl
  rotate_left
  · simp only [Act.put, List.setIfInBounds_toArray, List.set_cons_zero, List.set_cons_succ, i64_w, i32_w]
    rfl
  refine pure_ (i := 13) (N := some 21) (v := ?_) (a' := ?_) #[true, true, true, true, true, true, true, true, true, true, true, true, true, true, true, true, false, true, false, false, false, false, false, false] rfl rfl (by kernel_rfl) (fun _ _ _ h => h) (Or.inl ⟨by rfl, ?_⟩) ?_ ?_
  rotate_left
  · intro w'
    go_simp
    with_reducible rfl
  rotate_left
  · simp only [Act.put, List.setIfInBounds_toArray, List.set_cons_zero, List.set_cons_succ, i64_w, i32_w]
    rfl
  refine take_ (i := 16) (N := some 24) (v := ?_) (a' := ?_) #[true, true, true, true, true, true, true, true, true, true, true, true, true, true, true, true, true, true, false, false, false, false, false, false] rfl rfl (by kernel_rfl) (fun _ _ _ h => h) (Or.inl ⟨by rfl, ?_⟩) hHeld ?_ ?_
  rotate_left
  · rintro w' ⟨s0, s1, s2, s3, s4, s5, s6, s7⟩
    go_simp
    with_reducible rfl
  rotate_left
  · simp only [Act.put, List.setIfInBounds_toArray, List.set_cons_zero, List.set_cons_succ, i64_w, i32_w]
    rfl
  refine take_ (i := 18) (N := some 26) (v := ?_) (a' := ?_) #[true, true, true, true, true, true, true, true, true, true, true, true, true, true, true, true, true, true, true, false, false, false, false, false] rfl rfl (by kernel_rfl) (fun _ _ _ h => h) (Or.inl ⟨by rfl, ?_⟩) hHeld ?_ ?_
  rotate_left
  · rintro w' ⟨s0, s1, s2, s3, s4, s5, s6, s7⟩
    go_simp
    with_reducible rfl
  rotate_left
  · simp only [Act.put, List.setIfInBounds_toArray, List.set_cons_zero, List.set_cons_succ, i64_w, i32_w]
    rfl
  refine pure_ (i := 19) (N := some 27) (v := ?_) (a' := ?_) #[true, true, true, true, true, true, true, true, true, true, true, true, true, true, true, true, true, true, true, true, false, false, false, false] rfl rfl (by kernel_rfl) (fun _ _ _ h => h) (Or.inl ⟨by rfl, ?_⟩) ?_ ?_
  rotate_left
  · intro w'
    go_simp
    with_reducible rfl
  rotate_left
  · simp only [Act.put, List.setIfInBounds_toArray, List.set_cons_zero, List.set_cons_succ, i64_w, i32_w]
    rfl
  refine join_ (σ := Nat) 1 #[true, true, true, true, true, true, true, true, true, true, true, true, true, true, true, true, true, true, true, true, true, true, true, false] (fun s => [(28, .int .i64 (growI rate (wrap64 (x.f3 - x.f0)))), (29, .agg #[.int .i64 (forthI x rate).f0, .int .i64 (forthI x rate).f1]), (6, .pointer (some ⟨s, 0, none⟩))]) (fun s w' => Blk w' g2 #[.int .i64 x.f0, .int .i64 x.f1, .int .i64 x.f2, .int .i64 x.f3, .int .i64 x.f4.f0, .int .i64 x.f4.f1, .int .i64 x.f5.f0, .int .i64 x.f5.f1] 46 ∧ Blk w' g4 #[.int .i64 0, .int .i64 0] 35 ∧ Blk w' s #[.int .i64 0, .int .i64 0] 35 ∧ Below w.heap.size w w' ∧ w.heap.size ≤ s ∧ g2 ≠ s ∧ g4 ≠ s) ?_ ?_
  rotate_left
  · intro hCont
    refine two_ (i := 20) (j := 22) (Ni := some 28) (Nj := some 6) #[true, true, true, true, true, true, true, true, true, true, true, true, true, true, true, true, true, true, true, true, true, false, false, false] #[true, true, true, true, true, true, true, true, true, true, true, true, true, true, true, true, true, true, true, true, false, false, true, false] rfl rfl rfl rfl (by kernel_rfl) (by decide) (by decide) (fun K hK => ?_) (fun K hK => ?_)
    · skip
      refine goes_ Try.func94 (by kernel_rfl) rfl #[.int .i64 rate, .int .i64 (wrap64 (x.f3 - x.f0))] (by rfl) rfl rfl (by simp only [List.map_toArray, List.map_cons, List.map_nil]; rfl) ?_
      with_reducible refine (growth_any rate (wrap64 (x.f3 - x.f0)) _).mono ?_
      rintro e w20 ⟨rfl, hb⟩
      refine ⟨_, rfl, ?_⟩
      replace m2 := blk_below m2 hb
      replace m4 := blk_below m4 hb
      replace mB := below_step mB hb
      clear hb
      refine hK.out _ _ ⟨((blk_cell m2 0).trans rfl), ((blk_cell m2 1).trans rfl), ((blk_cell m2 2).trans rfl), ((blk_cell m2 3).trans rfl), ((blk_cell m2 4).trans rfl), ((blk_cell m2 5).trans rfl), ((blk_cell m2 6).trans rfl), ((blk_cell m2 7).trans rfl)⟩ (fun hHeld => ?_)
      clear hK K
      refine norm_ (a' := ?_) ?_ ?_
      rotate_left
      · show Act.put _ (some 28) _ = _
        simp only [Act.put, List.setIfInBounds_toArray, List.set_cons_zero, List.set_cons_succ, i64_w, i32_w]
        rfl
      refine two_ (i := 21) (j := 22) (Ni := some 29) (Nj := some 6) #[true, true, true, true, true, true, true, true, true, true, true, true, true, true, true, true, true, true, true, true, true, true, false, false] #[true, true, true, true, true, true, true, true, true, true, true, true, true, true, true, true, true, true, true, true, true, false, true, false] rfl rfl rfl rfl (by kernel_rfl) (by decide) (by decide) (fun K hK => ?_) (fun K hK => ?_)
      · skip
        refine goes_ Try.func93 (by kernel_rfl) rfl #[.agg #[.int .i64 (wrap64 (-x.f4.f1)), .int .i64 (wrap64 (-x.f4.f0))], .int .i64 (wrap64 (x.f1 - x.f0)), .int .i64 (growI rate (wrap64 (x.f3 - x.f0)))] (by rfl) rfl rfl (by simp only [List.map_toArray, List.map_cons, List.map_nil]; rfl) ?_
        with_reducible refine (shift_any ⟨wrap64 (-x.f4.f1), wrap64 (-x.f4.f0)⟩ (wrap64 (x.f1 - x.f0)) (growI rate (wrap64 (x.f3 - x.f0))) _).mono ?_
        rintro e w21 ⟨rfl, hb⟩
        refine ⟨_, rfl, ?_⟩
        replace m2 := blk_below m2 hb
        replace m4 := blk_below m4 hb
        replace mB := below_step mB hb
        clear hb
        refine hK.out _ _ ⟨((blk_cell m2 0).trans rfl), ((blk_cell m2 1).trans rfl), ((blk_cell m2 2).trans rfl), ((blk_cell m2 3).trans rfl), ((blk_cell m2 4).trans rfl), ((blk_cell m2 5).trans rfl), ((blk_cell m2 6).trans rfl), ((blk_cell m2 7).trans rfl)⟩ (fun hHeld => ?_)
        clear hK K
        refine norm_ (a' := ?_) ?_ ?_
        rotate_left
        · show Act.put _ (some 29) _ = _
          simp only [Act.put, List.setIfInBounds_toArray, List.set_cons_zero, List.set_cons_succ, i64_w, i32_w]
          rfl
        refine one_ (i := 22) (N := some 6) #[true, true, true, true, true, true, true, true, true, true, true, true, true, true, true, true, true, true, true, true, true, true, true, false] rfl rfl (by kernel_rfl) (by decide) (fun K hK => ?_)
        have hn_2_6 : g2 ≠ w21.heap.size := by have h_ := blk_lt m2; omega
        have hn_4_6 : g4 ≠ w21.heap.size := by have h_ := blk_lt m4; omega
        have hG6 : w.heap.size ≤ w21.heap.size := mB.size
        replace m2 := blk_alloc m2 (.cells #[.int .i64 0, .int .i64 0] 35)
        replace m4 := blk_alloc m4 (.cells #[.int .i64 0, .int .i64 0] 35)
        have m6 := blk_new w21 (.cells #[.int .i64 0, .int .i64 0] 35)
        replace mB := below_alloc mB (.cells #[.int .i64 0, .int .i64 0] 35)
        refine value_ (w1 := ?_) (v := ?_) (by rfl) rfl ?_ ?_
        rotate_left 2
        · go_simp
          constructor
          · rfl
          · rfl
        refine hK.out _ _ ⟨((blk_cell m2 0).trans rfl), ((blk_cell m2 1).trans rfl), ((blk_cell m2 2).trans rfl), ((blk_cell m2 3).trans rfl), ((blk_cell m2 4).trans rfl), ((blk_cell m2 5).trans rfl), ((blk_cell m2 6).trans rfl), ((blk_cell m2 7).trans rfl)⟩ (fun hHeld => ?_)
        clear hK K
        refine norm_ (a' := ?_) ?_ ?_
        rotate_left
        · show Act.put _ (some 6) _ = _
          simp only [Act.put, List.setIfInBounds_toArray, List.set_cons_zero, List.set_cons_succ, i64_w, i32_w]
          rfl
        exact norm_ (by first | (simp only [putAll, Act.put, List.setIfInBounds_toArray, List.set_cons_zero, List.set_cons_succ]; done) | (simp only [putAll, Act.put, List.setIfInBounds_toArray, List.set_cons_zero, List.set_cons_succ]; rfl)) (hCont w21.heap.size _ ⟨m2, m4, m6, mB, hG6, hn_2_6, hn_4_6⟩)
      · skip
        have hn_2_6 : g2 ≠ w20.heap.size := by have h_ := blk_lt m2; omega
        have hn_4_6 : g4 ≠ w20.heap.size := by have h_ := blk_lt m4; omega
        have hG6 : w.heap.size ≤ w20.heap.size := mB.size
        replace m2 := blk_alloc m2 (.cells #[.int .i64 0, .int .i64 0] 35)
        replace m4 := blk_alloc m4 (.cells #[.int .i64 0, .int .i64 0] 35)
        have m6 := blk_new w20 (.cells #[.int .i64 0, .int .i64 0] 35)
        replace mB := below_alloc mB (.cells #[.int .i64 0, .int .i64 0] 35)
        refine value_ (w1 := ?_) (v := ?_) (by rfl) rfl ?_ ?_
        rotate_left 2
        · go_simp
          constructor
          · rfl
          · rfl
        refine hK.out _ _ ⟨((blk_cell m2 0).trans rfl), ((blk_cell m2 1).trans rfl), ((blk_cell m2 2).trans rfl), ((blk_cell m2 3).trans rfl), ((blk_cell m2 4).trans rfl), ((blk_cell m2 5).trans rfl), ((blk_cell m2 6).trans rfl), ((blk_cell m2 7).trans rfl)⟩ (fun hHeld => ?_)
        clear hK K
        refine norm_ (a' := ?_) ?_ ?_
        rotate_left
        · show Act.put _ (some 6) _ = _
          simp only [Act.put, List.setIfInBounds_toArray, List.set_cons_zero, List.set_cons_succ, i64_w, i32_w]
          rfl
        refine one_ (i := 21) (N := some 29) #[true, true, true, true, true, true, true, true, true, true, true, true, true, true, true, true, true, true, true, true, true, true, true, false] rfl rfl (by kernel_rfl) (by decide) (fun K hK => ?_)
        refine goes_ Try.func93 (by kernel_rfl) rfl #[.agg #[.int .i64 (wrap64 (-x.f4.f1)), .int .i64 (wrap64 (-x.f4.f0))], .int .i64 (wrap64 (x.f1 - x.f0)), .int .i64 (growI rate (wrap64 (x.f3 - x.f0)))] (by rfl) rfl rfl (by simp only [List.map_toArray, List.map_cons, List.map_nil]; rfl) ?_
        with_reducible refine (shift_any ⟨wrap64 (-x.f4.f1), wrap64 (-x.f4.f0)⟩ (wrap64 (x.f1 - x.f0)) (growI rate (wrap64 (x.f3 - x.f0))) _).mono ?_
        rintro e w21 ⟨rfl, hb⟩
        refine ⟨_, rfl, ?_⟩
        replace m2 := blk_below m2 hb
        replace m4 := blk_below m4 hb
        replace m6 := blk_below m6 hb
        replace mB := below_step mB hb
        clear hb
        refine hK.out _ _ ⟨((blk_cell m2 0).trans rfl), ((blk_cell m2 1).trans rfl), ((blk_cell m2 2).trans rfl), ((blk_cell m2 3).trans rfl), ((blk_cell m2 4).trans rfl), ((blk_cell m2 5).trans rfl), ((blk_cell m2 6).trans rfl), ((blk_cell m2 7).trans rfl)⟩ (fun hHeld => ?_)
        clear hK K
        refine norm_ (a' := ?_) ?_ ?_
        rotate_left
        · show Act.put _ (some 29) _ = _
          simp only [Act.put, List.setIfInBounds_toArray, List.set_cons_zero, List.set_cons_succ, i64_w, i32_w]
          rfl
        exact norm_ (by first | (simp only [putAll, Act.put, List.setIfInBounds_toArray, List.set_cons_zero, List.set_cons_succ]; done) | (simp only [putAll, Act.put, List.setIfInBounds_toArray, List.set_cons_zero, List.set_cons_succ]; rfl)) (hCont w20.heap.size _ ⟨m2, m4, m6, mB, hG6, hn_2_6, hn_4_6⟩)
    · skip
      have hn_2_6 : g2 ≠ Wd.heap.size := by have h_ := blk_lt m2; omega
      have hn_4_6 : g4 ≠ Wd.heap.size := by have h_ := blk_lt m4; omega
      have hG6 : w.heap.size ≤ Wd.heap.size := mB.size
      replace m2 := blk_alloc m2 (.cells #[.int .i64 0, .int .i64 0] 35)
      replace m4 := blk_alloc m4 (.cells #[.int .i64 0, .int .i64 0] 35)
      have m6 := blk_new Wd (.cells #[.int .i64 0, .int .i64 0] 35)
      replace mB := below_alloc mB (.cells #[.int .i64 0, .int .i64 0] 35)
      refine value_ (w1 := ?_) (v := ?_) (by rfl) rfl ?_ ?_
      rotate_left 2
      · go_simp
        constructor
        · rfl
        · rfl
      refine hK.out _ _ ⟨((blk_cell m2 0).trans rfl), ((blk_cell m2 1).trans rfl), ((blk_cell m2 2).trans rfl), ((blk_cell m2 3).trans rfl), ((blk_cell m2 4).trans rfl), ((blk_cell m2 5).trans rfl), ((blk_cell m2 6).trans rfl), ((blk_cell m2 7).trans rfl)⟩ (fun hHeld => ?_)
      clear hK K
      refine norm_ (a' := ?_) ?_ ?_
      rotate_left
      · show Act.put _ (some 6) _ = _
        simp only [Act.put, List.setIfInBounds_toArray, List.set_cons_zero, List.set_cons_succ, i64_w, i32_w]
        rfl
      refine one_ (i := 20) (N := some 28) #[true, true, true, true, true, true, true, true, true, true, true, true, true, true, true, true, true, true, true, true, true, false, true, false] rfl rfl (by kernel_rfl) (by decide) (fun K hK => ?_)
      refine goes_ Try.func94 (by kernel_rfl) rfl #[.int .i64 rate, .int .i64 (wrap64 (x.f3 - x.f0))] (by rfl) rfl rfl (by simp only [List.map_toArray, List.map_cons, List.map_nil]; rfl) ?_
      with_reducible refine (growth_any rate (wrap64 (x.f3 - x.f0)) _).mono ?_
      rintro e w20 ⟨rfl, hb⟩
      refine ⟨_, rfl, ?_⟩
      replace m2 := blk_below m2 hb
      replace m4 := blk_below m4 hb
      replace m6 := blk_below m6 hb
      replace mB := below_step mB hb
      clear hb
      refine hK.out _ _ ⟨((blk_cell m2 0).trans rfl), ((blk_cell m2 1).trans rfl), ((blk_cell m2 2).trans rfl), ((blk_cell m2 3).trans rfl), ((blk_cell m2 4).trans rfl), ((blk_cell m2 5).trans rfl), ((blk_cell m2 6).trans rfl), ((blk_cell m2 7).trans rfl)⟩ (fun hHeld => ?_)
      clear hK K
      refine norm_ (a' := ?_) ?_ ?_
      rotate_left
      · show Act.put _ (some 28) _ = _
        simp only [Act.put, List.setIfInBounds_toArray, List.set_cons_zero, List.set_cons_succ, i64_w, i32_w]
        rfl
      refine one_ (i := 21) (N := some 29) #[true, true, true, true, true, true, true, true, true, true, true, true, true, true, true, true, true, true, true, true, true, true, true, false] rfl rfl (by kernel_rfl) (by decide) (fun K hK => ?_)
      refine goes_ Try.func93 (by kernel_rfl) rfl #[.agg #[.int .i64 (wrap64 (-x.f4.f1)), .int .i64 (wrap64 (-x.f4.f0))], .int .i64 (wrap64 (x.f1 - x.f0)), .int .i64 (growI rate (wrap64 (x.f3 - x.f0)))] (by rfl) rfl rfl (by simp only [List.map_toArray, List.map_cons, List.map_nil]; rfl) ?_
      with_reducible refine (shift_any ⟨wrap64 (-x.f4.f1), wrap64 (-x.f4.f0)⟩ (wrap64 (x.f1 - x.f0)) (growI rate (wrap64 (x.f3 - x.f0))) _).mono ?_
      rintro e w21 ⟨rfl, hb⟩
      refine ⟨_, rfl, ?_⟩
      replace m2 := blk_below m2 hb
      replace m4 := blk_below m4 hb
      replace m6 := blk_below m6 hb
      replace mB := below_step mB hb
      clear hb
      refine hK.out _ _ ⟨((blk_cell m2 0).trans rfl), ((blk_cell m2 1).trans rfl), ((blk_cell m2 2).trans rfl), ((blk_cell m2 3).trans rfl), ((blk_cell m2 4).trans rfl), ((blk_cell m2 5).trans rfl), ((blk_cell m2 6).trans rfl), ((blk_cell m2 7).trans rfl)⟩ (fun hHeld => ?_)
      clear hK K
      refine norm_ (a' := ?_) ?_ ?_
      rotate_left
      · show Act.put _ (some 29) _ = _
        simp only [Act.put, List.setIfInBounds_toArray, List.set_cons_zero, List.set_cons_succ, i64_w, i32_w]
        rfl
      exact norm_ (by first | (simp only [putAll, Act.put, List.setIfInBounds_toArray, List.set_cons_zero, List.set_cons_succ]; done) | (simp only [putAll, Act.put, List.setIfInBounds_toArray, List.set_cons_zero, List.set_cons_succ]; rfl)) (hCont Wd.heap.size _ ⟨m2, m4, m6, mB, hG6, hn_2_6, hn_4_6⟩)
  rintro g6 W6 ⟨m2, m4, m6, mB, hG6, hn_2_6, hn_4_6⟩
  have hHeld : (W6.cell? ⟨g2, 0, none⟩ = some (.int .i64 x.f0) ∧ W6.cell? ⟨g2, 1, none⟩ = some (.int .i64 x.f1) ∧ W6.cell? ⟨g2, 2, none⟩ = some (.int .i64 x.f2) ∧ W6.cell? ⟨g2, 3, none⟩ = some (.int .i64 x.f3) ∧ W6.cell? ⟨g2, 4, none⟩ = some (.int .i64 x.f4.f0) ∧ W6.cell? ⟨g2, 5, none⟩ = some (.int .i64 x.f4.f1) ∧ W6.cell? ⟨g2, 6, none⟩ = some (.int .i64 x.f5.f0) ∧ W6.cell? ⟨g2, 7, none⟩ = some (.int .i64 x.f5.f1)) := ⟨((blk_cell m2 0).trans rfl), ((blk_cell m2 1).trans rfl), ((blk_cell m2 2).trans rfl), ((blk_cell m2 3).trans rfl), ((blk_cell m2 4).trans rfl), ((blk_cell m2 5).trans rfl), ((blk_cell m2 6).trans rfl), ((blk_cell m2 7).trans rfl)⟩
  refine norm_ (a' := ?_) ?_ ?_
  rotate_left
  · simp only [putAll, Act.put, List.setIfInBounds_toArray, List.set_cons_zero, List.set_cons_succ]
    rfl
  refine one_ (i := 23) (N := none) #[true, true, true, true, true, true, true, true, true, true, true, true, true, true, true, true, true, true, true, true, true, true, true, true] rfl rfl (by kernel_rfl) (by decide) (fun K hK => ?_)
  have hf0 := blk_frozen m6 0
  have hf1 := blk_frozen m6 1
  have hc0 := (blk_cell m6 0).trans rfl
  have hc1 := (blk_cell m6 1).trans rfl
  refine skip_ (w1 := ?_) (by rfl) rfl ?_ ?_
  rotate_left
  · go_simp
    rfl
  refine hK.out _ _ ⟨((cell_far (p := ⟨g6, _, none⟩) hn_2_6 _).trans ((cell_far (p := ⟨g6, _, none⟩) hn_2_6 _).trans hHeld.1)), ((cell_far (p := ⟨g6, _, none⟩) hn_2_6 _).trans ((cell_far (p := ⟨g6, _, none⟩) hn_2_6 _).trans hHeld.2.1)), ((cell_far (p := ⟨g6, _, none⟩) hn_2_6 _).trans ((cell_far (p := ⟨g6, _, none⟩) hn_2_6 _).trans hHeld.2.2.1)), ((cell_far (p := ⟨g6, _, none⟩) hn_2_6 _).trans ((cell_far (p := ⟨g6, _, none⟩) hn_2_6 _).trans hHeld.2.2.2.1)), ((cell_far (p := ⟨g6, _, none⟩) hn_2_6 _).trans ((cell_far (p := ⟨g6, _, none⟩) hn_2_6 _).trans hHeld.2.2.2.2.1)), ((cell_far (p := ⟨g6, _, none⟩) hn_2_6 _).trans ((cell_far (p := ⟨g6, _, none⟩) hn_2_6 _).trans hHeld.2.2.2.2.2.1)), ((cell_far (p := ⟨g6, _, none⟩) hn_2_6 _).trans ((cell_far (p := ⟨g6, _, none⟩) hn_2_6 _).trans hHeld.2.2.2.2.2.2.1)), ((cell_far (p := ⟨g6, _, none⟩) hn_2_6 _).trans ((cell_far (p := ⟨g6, _, none⟩) hn_2_6 _).trans hHeld.2.2.2.2.2.2.2))⟩ (fun hHeld => ?_)
  clear hK K
  refine done_ (by kernel_rfl) ?_
  have hn_6_2 := hn_2_6.symm
  have hn_6_4 := hn_4_6.symm
  have n2 : Blk ((W6.setCell ⟨g6, 0, none⟩ (.int .i64 (forthI x rate).f0)).setCell ⟨g6, 1, none⟩ (.int .i64 (forthI x rate).f1)) g2 #[.int .i64 x.f0, .int .i64 x.f1, .int .i64 x.f2, .int .i64 x.f3, .int .i64 x.f4.f0, .int .i64 x.f4.f1, .int .i64 x.f5.f0, .int .i64 x.f5.f1] 46 := (blk_far (p := ⟨g6, 1, none⟩) (blk_far (p := ⟨g6, 0, none⟩) m2 hn_2_6 _) hn_2_6 _)
  have n4 : Blk ((W6.setCell ⟨g6, 0, none⟩ (.int .i64 (forthI x rate).f0)).setCell ⟨g6, 1, none⟩ (.int .i64 (forthI x rate).f1)) g4 #[.int .i64 0, .int .i64 0] 35 := (blk_far (p := ⟨g6, 1, none⟩) (blk_far (p := ⟨g6, 0, none⟩) m4 hn_4_6 _) hn_4_6 _)
  have n6 : Blk ((W6.setCell ⟨g6, 0, none⟩ (.int .i64 (forthI x rate).f0)).setCell ⟨g6, 1, none⟩ (.int .i64 (forthI x rate).f1)) g6 #[.int .i64 (forthI x rate).f0, .int .i64 (forthI x rate).f1] 35 := (blk_put (blk_put m6 0 _ rfl) 1 _ rfl)
  have nB : Below w.heap.size w ((W6.setCell ⟨g6, 0, none⟩ (.int .i64 (forthI x rate).f0)).setCell ⟨g6, 1, none⟩ (.int .i64 (forthI x rate).f1)) := ((mB.setCell hG6 _).setCell hG6 _)
  clear m2 m4 m6 mB
  try clear hHeld
  generalize hW_ : ((W6.setCell ⟨g6, 0, none⟩ (.int .i64 (forthI x rate).f0)).setCell ⟨g6, 1, none⟩ (.int .i64 (forthI x rate).f1)) = W7 at n2 n4 n6 nB ⊢
  clear hW_
  have m2 := n2; clear n2
  have m4 := n4; clear n4
  have m6 := n6; clear n6
  have mB := nB; clear nB
  have hs_W7 : w.heap.size ≤ W7.heap.size := mB.size
  have c2_0 := (blk_cell m2 0).trans rfl
  have c2_1 := (blk_cell m2 1).trans rfl
  have c2_2 := (blk_cell m2 2).trans rfl
  have c2_3 := (blk_cell m2 3).trans rfl
  have c2_4 := (blk_cell m2 4).trans rfl
  have c2_5 := (blk_cell m2 5).trans rfl
  have c2_6 := (blk_cell m2 6).trans rfl
  have c2_7 := (blk_cell m2 7).trans rfl
  go_wp2_with fail
  clear c2_0
  clear c2_1
  clear c2_2
  clear c2_3
  clear c2_4
  clear c2_5
  clear c2_6
  clear c2_7
  have hcon := shift_any x.f5 (wrap64 (x.f2 - x.f3)) 0 W7
  (with_reducible refine hcon.mono ?_)
  clear hcon
  rintro e W8 ⟨rfl, hb⟩
  replace m2 := blk_below m2 hb
  replace m4 := blk_below m4 hb
  replace m6 := blk_below m6 hb
  replace mB := below_step mB hb
  clear hb
  have hs_W8 : w.heap.size ≤ W8.heap.size := mB.size
  have c6_0 : ∀ o_, (W8.alloc o_).cell? ⟨g6, 0, none⟩ = some (.int .i64 (forthI x rate).f0) := fun o_ => (blk_cell (blk_alloc m6 o_) 0).trans rfl
  have c6_1 : ∀ o_, (W8.alloc o_).cell? ⟨g6, 1, none⟩ = some (.int .i64 (forthI x rate).f1) := fun o_ => (blk_cell (blk_alloc m6 o_) 1).trans rfl
  go_wp2_with fail
  have hl_2 := blk_lt m2
  have hl_4 := blk_lt m4
  have hl_6 := blk_lt m6
  have m7 : Blk ((W8.alloc (.cells #[.int .i64 (shiftI x.f5 (wrap64 (x.f2 - x.f3)) 0).f0, .int .i64 (shiftI x.f5 (wrap64 (x.f2 - x.f3)) 0).f1] 35)).alloc (.cells #[.int .i64 (forthI x rate).f0, .int .i64 (forthI x rate).f1, .int .i64 (shiftI x.f5 (wrap64 (x.f2 - x.f3)) 0).f0, .int .i64 (shiftI x.f5 (wrap64 (x.f2 - x.f3)) 0).f1] 35)) (W8.heap.size) #[.int .i64 (shiftI x.f5 (wrap64 (x.f2 - x.f3)) 0).f0, .int .i64 (shiftI x.f5 (wrap64 (x.f2 - x.f3)) 0).f1] 35 := (blk_alloc (by have h_ := blk_new W8 (.cells #[.int .i64 (shiftI x.f5 (wrap64 (x.f2 - x.f3)) 0).f0, .int .i64 (shiftI x.f5 (wrap64 (x.f2 - x.f3)) 0).f1] 35); first | exact h_ | (simp only [World.size_alloc] at h_; exact h_)) _)
  have mR : Blk ((W8.alloc (.cells #[.int .i64 (shiftI x.f5 (wrap64 (x.f2 - x.f3)) 0).f0, .int .i64 (shiftI x.f5 (wrap64 (x.f2 - x.f3)) 0).f1] 35)).alloc (.cells #[.int .i64 (forthI x rate).f0, .int .i64 (forthI x rate).f1, .int .i64 (shiftI x.f5 (wrap64 (x.f2 - x.f3)) 0).f0, .int .i64 (shiftI x.f5 (wrap64 (x.f2 - x.f3)) 0).f1] 35)) (W8.heap.size + 1) #[.int .i64 (forthI x rate).f0, .int .i64 (forthI x rate).f1, .int .i64 (shiftI x.f5 (wrap64 (x.f2 - x.f3)) 0).f0, .int .i64 (shiftI x.f5 (wrap64 (x.f2 - x.f3)) 0).f1] 35 := (by have h_ := blk_new (W8.alloc (.cells #[.int .i64 (shiftI x.f5 (wrap64 (x.f2 - x.f3)) 0).f0, .int .i64 (shiftI x.f5 (wrap64 (x.f2 - x.f3)) 0).f1] 35)) (.cells #[.int .i64 (forthI x rate).f0, .int .i64 (forthI x rate).f1, .int .i64 (shiftI x.f5 (wrap64 (x.f2 - x.f3)) 0).f0, .int .i64 (shiftI x.f5 (wrap64 (x.f2 - x.f3)) 0).f1] 35); first | exact h_ | (simp only [World.size_alloc] at h_; exact h_))
  replace m2 : Blk ((W8.alloc (.cells #[.int .i64 (shiftI x.f5 (wrap64 (x.f2 - x.f3)) 0).f0, .int .i64 (shiftI x.f5 (wrap64 (x.f2 - x.f3)) 0).f1] 35)).alloc (.cells #[.int .i64 (forthI x rate).f0, .int .i64 (forthI x rate).f1, .int .i64 (shiftI x.f5 (wrap64 (x.f2 - x.f3)) 0).f0, .int .i64 (shiftI x.f5 (wrap64 (x.f2 - x.f3)) 0).f1] 35)) g2 #[.int .i64 x.f0, .int .i64 x.f1, .int .i64 x.f2, .int .i64 x.f3, .int .i64 x.f4.f0, .int .i64 x.f4.f1, .int .i64 x.f5.f0, .int .i64 x.f5.f1] 46 := (blk_alloc (blk_alloc m2 _) _)
  replace m4 : Blk ((W8.alloc (.cells #[.int .i64 (shiftI x.f5 (wrap64 (x.f2 - x.f3)) 0).f0, .int .i64 (shiftI x.f5 (wrap64 (x.f2 - x.f3)) 0).f1] 35)).alloc (.cells #[.int .i64 (forthI x rate).f0, .int .i64 (forthI x rate).f1, .int .i64 (shiftI x.f5 (wrap64 (x.f2 - x.f3)) 0).f0, .int .i64 (shiftI x.f5 (wrap64 (x.f2 - x.f3)) 0).f1] 35)) g4 #[.int .i64 0, .int .i64 0] 35 := (blk_alloc (blk_alloc m4 _) _)
  replace m6 : Blk ((W8.alloc (.cells #[.int .i64 (shiftI x.f5 (wrap64 (x.f2 - x.f3)) 0).f0, .int .i64 (shiftI x.f5 (wrap64 (x.f2 - x.f3)) 0).f1] 35)).alloc (.cells #[.int .i64 (forthI x rate).f0, .int .i64 (forthI x rate).f1, .int .i64 (shiftI x.f5 (wrap64 (x.f2 - x.f3)) 0).f0, .int .i64 (shiftI x.f5 (wrap64 (x.f2 - x.f3)) 0).f1] 35)) g6 #[.int .i64 (forthI x rate).f0, .int .i64 (forthI x rate).f1] 35 := (blk_alloc (blk_alloc m6 _) _)
  replace mB : Below w.heap.size w ((W8.alloc (.cells #[.int .i64 (shiftI x.f5 (wrap64 (x.f2 - x.f3)) 0).f0, .int .i64 (shiftI x.f5 (wrap64 (x.f2 - x.f3)) 0).f1] 35)).alloc (.cells #[.int .i64 (forthI x rate).f0, .int .i64 (forthI x rate).f1, .int .i64 (shiftI x.f5 (wrap64 (x.f2 - x.f3)) 0).f0, .int .i64 (shiftI x.f5 (wrap64 (x.f2 - x.f3)) 0).f1] 35)) := (below_alloc (below_alloc mB _) _)
  have hsz_ : w.heap.size ≤ W8.heap.size := hs_W8
  generalize hW_ : ((W8.alloc (.cells #[.int .i64 (shiftI x.f5 (wrap64 (x.f2 - x.f3)) 0).f0, .int .i64 (shiftI x.f5 (wrap64 (x.f2 - x.f3)) 0).f1] 35)).alloc (.cells #[.int .i64 (forthI x rate).f0, .int .i64 (forthI x rate).f1, .int .i64 (shiftI x.f5 (wrap64 (x.f2 - x.f3)) 0).f0, .int .i64 (shiftI x.f5 (wrap64 (x.f2 - x.f3)) 0).f1] 35)) = W9 at m2 m4 m6 m7 mR mB ⊢
  clear hW_
  generalize hg7 : W8.heap.size = g7 at m7 mR ⊢
  have hn_2_7 : g2 ≠ g7 := by omega
  have hn_4_7 : g4 ≠ g7 := by omega
  have hn_6_7 : g6 ≠ g7 := by omega
  have hn_7_2 : g7 ≠ g2 := hn_2_7.symm
  have hn_7_4 : g7 ≠ g4 := hn_4_7.symm
  have hn_7_6 : g7 ≠ g6 := hn_6_7.symm
  have hG7 : w.heap.size ≤ g7 := by omega
  generalize hgR : g7 + 1 = gR at mR ⊢
  have hn_2_R : g2 ≠ gR := by omega
  have hn_4_R : g4 ≠ gR := by omega
  have hn_6_R : g6 ≠ gR := by omega
  have hn_7_R : g7 ≠ gR := by omega
  have hn_R_2 : gR ≠ g2 := hn_2_R.symm
  have hn_R_4 : gR ≠ g4 := hn_4_R.symm
  have hn_R_6 : gR ≠ g6 := hn_6_R.symm
  have hn_R_7 : gR ≠ g7 := hn_7_R.symm
  have hGR : w.heap.size ≤ gR := by omega
  clear hsz_ hl_2 hl_4 hl_6
  try clear hgR
  try clear hg7
  have hs_W9 : w.heap.size ≤ W9.heap.size := mB.size
  refine (values35_any _ _ _ _).mono ?_
  rintro e W_ ⟨rfl, rfl⟩
  have hl_2 := blk_lt m2
  have hl_4 := blk_lt m4
  have hl_6 := blk_lt m6
  have hl_7 := blk_lt m7
  have hl_R := blk_lt mR
  have mV : Blk (W9.alloc (.cells #[.slice (some ⟨gR, 0, none⟩) 2 2] 65)) (W9.heap.size) #[.slice (some ⟨gR, 0, none⟩) 2 2] 65 := (by have h_ := blk_new W9 (.cells #[.slice (some ⟨gR, 0, none⟩) 2 2] 65); first | exact h_ | (simp only [World.size_alloc] at h_; exact h_))
  replace m2 : Blk (W9.alloc (.cells #[.slice (some ⟨gR, 0, none⟩) 2 2] 65)) g2 #[.int .i64 x.f0, .int .i64 x.f1, .int .i64 x.f2, .int .i64 x.f3, .int .i64 x.f4.f0, .int .i64 x.f4.f1, .int .i64 x.f5.f0, .int .i64 x.f5.f1] 46 := (blk_alloc m2 _)
  replace m4 : Blk (W9.alloc (.cells #[.slice (some ⟨gR, 0, none⟩) 2 2] 65)) g4 #[.int .i64 0, .int .i64 0] 35 := (blk_alloc m4 _)
  replace m6 : Blk (W9.alloc (.cells #[.slice (some ⟨gR, 0, none⟩) 2 2] 65)) g6 #[.int .i64 (forthI x rate).f0, .int .i64 (forthI x rate).f1] 35 := (blk_alloc m6 _)
  replace m7 : Blk (W9.alloc (.cells #[.slice (some ⟨gR, 0, none⟩) 2 2] 65)) g7 #[.int .i64 (shiftI x.f5 (wrap64 (x.f2 - x.f3)) 0).f0, .int .i64 (shiftI x.f5 (wrap64 (x.f2 - x.f3)) 0).f1] 35 := (blk_alloc m7 _)
  replace mR : Blk (W9.alloc (.cells #[.slice (some ⟨gR, 0, none⟩) 2 2] 65)) gR #[.int .i64 (forthI x rate).f0, .int .i64 (forthI x rate).f1, .int .i64 (shiftI x.f5 (wrap64 (x.f2 - x.f3)) 0).f0, .int .i64 (shiftI x.f5 (wrap64 (x.f2 - x.f3)) 0).f1] 35 := (blk_alloc mR _)
  replace mB : Below w.heap.size w (W9.alloc (.cells #[.slice (some ⟨gR, 0, none⟩) 2 2] 65)) := (below_alloc mB _)
  have hsz_ : w.heap.size ≤ W9.heap.size := hs_W9
  generalize hW_ : (W9.alloc (.cells #[.slice (some ⟨gR, 0, none⟩) 2 2] 65)) = W10 at m2 m4 m6 m7 mR mV mB ⊢
  clear hW_
  generalize hgV : W9.heap.size = gV at mV ⊢
  have hn_2_V : g2 ≠ gV := by omega
  have hn_4_V : g4 ≠ gV := by omega
  have hn_6_V : g6 ≠ gV := by omega
  have hn_7_V : g7 ≠ gV := by omega
  have hn_R_V : gR ≠ gV := by omega
  have hn_V_2 : gV ≠ g2 := hn_2_V.symm
  have hn_V_4 : gV ≠ g4 := hn_4_V.symm
  have hn_V_6 : gV ≠ g6 := hn_6_V.symm
  have hn_V_7 : gV ≠ g7 := hn_7_V.symm
  have hn_V_R : gV ≠ gR := hn_R_V.symm
  have hGV : w.heap.size ≤ gV := by omega
  clear hsz_ hl_2 hl_4 hl_6 hl_7 hl_R
  try clear hgV
  have hs_W10 : w.heap.size ≤ W10.heap.size := mB.size
  go_wp2_with fail
  have hC := C_two (y := homeI x) mR
  have hcon := meet35_any 101 85 #[.pointer (some ⟨gV, 0, none⟩)] #[] W10 [forthI x rate, homeI x] id (enters_of Try.func101 (by kernel_rfl) rfl) (enters_of Try.func85 (by kernel_rfl) rfl) (fun W_ hb_ => values35_stops 5 (by omega) gV W10 W_ (some ⟨gR, 0, none⟩) 2 [forthI x rate, homeI x] (by simp) hC hb_ (Nat.lt_of_lt_of_le (blk_lt mV) hb_.size) ((blk_cell (blk_below mV hb_) 0).trans rfl)) itself_span
  (with_reducible refine hcon.mono ?_)
  clear hcon
  rintro e W11 ⟨rfl, hb⟩
  replace m2 := blk_below m2 hb
  replace m4 := blk_below m4 hb
  replace m6 := blk_below m6 hb
  replace m7 := blk_below m7 hb
  replace mR := blk_below mR hb
  replace mV := blk_below mV hb
  replace mB := below_step mB hb
  clear hb
  have hs_W11 : w.heap.size ≤ W11.heap.size := mB.size
  have hm : meetF ([forthI x rate, homeI x].map id) = offsetI x rate := rfl
  rw [hm]
  clear hm
  generalize hR : offsetI x rate = R
  have HR := Lib.hid hR
  clear hR
  have f4_0 := blk_frozen m4 0
  have f4_1 := blk_frozen m4 1
  have c4_0 := (blk_cell m4 0).trans rfl
  have c4_1 := (blk_cell m4 1).trans rfl
  go_wp2
  exact bodyPost_ret (results_ct rfl _ _ g4 35 #[.int .i64 R.1, .int .i64 R.2] (0, 0) _ rfl (blk_put (blk_put m4 0 _ rfl) 1 _ rfl) Try.underlying35 rfl (by kernel_rfl)) rfl ⟨by rw [HR.out]; rfl, (mB.setCell hG4 _).setCell hG4 _⟩
end Go.Proofs.Ytcjdhajdoikojaa.Clk
end
section
/- The offset of a clock at a reading, as the program computes it out of its anchors. -/
namespace Go.Proofs.Ytcjdhajdoikojaa.Clk
open Go.RowKit Go.Shelf Go.Proofs.YtcjdhajdoikojaaW.PrintWords Go.Proofs.YtcjdhajdoikojaaW.PrintLast Go.Proofs.YtcjdhajdoikojaaW.PrintMore Go.Proofs.Ytcjdhajdoikojaa.Pr Go.Proofs.YtcjdhajdoikojaaW.Round
set_option linter.unusedVariables false
set_option linter.unusedSimpArgs false

set_option maxRecDepth 100000 in
set_option maxHeartbeats 2000000 in
theorem at1_any (b : Nat) (par rate : Int) (ys : List S105) (a : S105) (t : Int) (B1 B2 : Nat) (w : World) (mp : Blk w B1 #[.pointer (some ⟨b, 0, none⟩)] 99) (mt : Blk w B2 #[.int .i64 t] 2) (hF : FaceAt w b par rate ys) :
    Calls Try.prog 89 #[.agg #[.int .i64 a.f0.f0, .int .i64 a.f0.f1, .int .i64 a.f1], .pointer (some ⟨B1, 0, none⟩), .pointer (some ⟨B2, 0, none⟩)] w fun e w' =>
      e = .returned (.agg #[.int .i64 (seenI rate a t).f0, .int .i64 (seenI rate a t).f1]) ∧ Below w.heap.size w w' := by
  have hu35 := Try.underlying35
  have hu105 := Try.underlying105
  have cp_0 : ∀ o0_ o1_, ((w.alloc o0_).alloc o1_).cell? ⟨B1, 0, none⟩ = some (.pointer (some ⟨b, 0, none⟩)) := fun o0_ o1_ => (blk_cell (blk_alloc (blk_alloc mp o0_) o1_) 0).trans rfl
  have ct_0 : ∀ o0_ o1_, ((w.alloc o0_).alloc o1_).cell? ⟨B2, 0, none⟩ = some (.int .i64 t) := fun o0_ o1_ => (blk_cell (blk_alloc (blk_alloc mt o0_) o1_) 0).trans rfl
  go_enter Try.func89, Try.ntmps89
  go_wp2_with fail
  clear cp_0
  clear ct_0
  have hl_p := blk_lt mp
  have hl_t := blk_lt mt
  have m3 : Blk ((w.alloc (.cells #[.int .i64 a.f0.f0, .int .i64 a.f0.f1, .int .i64 a.f1] 105)).alloc (.cells #[.int .i64 0, .int .i64 0] 35)) (w.heap.size) #[.int .i64 a.f0.f0, .int .i64 a.f0.f1, .int .i64 a.f1] 105 := (blk_alloc (by have h_ := blk_new w (.cells #[.int .i64 a.f0.f0, .int .i64 a.f0.f1, .int .i64 a.f1] 105); first | exact h_ | (simp only [World.size_alloc] at h_; exact h_)) _)
  have m4 : Blk ((w.alloc (.cells #[.int .i64 a.f0.f0, .int .i64 a.f0.f1, .int .i64 a.f1] 105)).alloc (.cells #[.int .i64 0, .int .i64 0] 35)) (w.heap.size + 1) #[.int .i64 0, .int .i64 0] 35 := (by have h_ := blk_new (w.alloc (.cells #[.int .i64 a.f0.f0, .int .i64 a.f0.f1, .int .i64 a.f1] 105)) (.cells #[.int .i64 0, .int .i64 0] 35); first | exact h_ | (simp only [World.size_alloc] at h_; exact h_))
  replace mp : Blk ((w.alloc (.cells #[.int .i64 a.f0.f0, .int .i64 a.f0.f1, .int .i64 a.f1] 105)).alloc (.cells #[.int .i64 0, .int .i64 0] 35)) B1 #[.pointer (some ⟨b, 0, none⟩)] 99 := (blk_alloc (blk_alloc mp _) _)
  replace mt : Blk ((w.alloc (.cells #[.int .i64 a.f0.f0, .int .i64 a.f0.f1, .int .i64 a.f1] 105)).alloc (.cells #[.int .i64 0, .int .i64 0] 35)) B2 #[.int .i64 t] 2 := (blk_alloc (blk_alloc mt _) _)
  have mB : Below w.heap.size w ((w.alloc (.cells #[.int .i64 a.f0.f0, .int .i64 a.f0.f1, .int .i64 a.f1] 105)).alloc (.cells #[.int .i64 0, .int .i64 0] 35)) := (below_alloc (below_alloc (Below.refl w.heap.size w) _) _)
  have hsz_ : w.heap.size ≤ w.heap.size := Nat.le_refl _
  generalize hW_ : ((w.alloc (.cells #[.int .i64 a.f0.f0, .int .i64 a.f0.f1, .int .i64 a.f1] 105)).alloc (.cells #[.int .i64 0, .int .i64 0] 35)) = W1 at mp mt m3 m4 mB ⊢
  clear hW_
  generalize hg3 : w.heap.size = g3 at m3 m4 ⊢
  have hn_p_3 : B1 ≠ g3 := by omega
  have hn_t_3 : B2 ≠ g3 := by omega
  have hn_3_p : g3 ≠ B1 := hn_p_3.symm
  have hn_3_t : g3 ≠ B2 := hn_t_3.symm
  have hG3 : w.heap.size ≤ g3 := by omega
  generalize hg4 : g3 + 1 = g4 at m4 ⊢
  have hn_p_4 : B1 ≠ g4 := by omega
  have hn_t_4 : B2 ≠ g4 := by omega
  have hn_3_4 : g3 ≠ g4 := by omega
  have hn_4_p : g4 ≠ B1 := hn_p_4.symm
  have hn_4_t : g4 ≠ B2 := hn_t_4.symm
  have hn_4_3 : g4 ≠ g3 := hn_3_4.symm
  have hG4 : w.heap.size ≤ g4 := by omega
  clear hsz_ hl_p hl_t
  try clear hg4
  try clear hg3
  have hs_W1 : w.heap.size ≤ W1.heap.size := mB.size
  have hcon := seen_any b par rate ys a t W1 (hF.below mB)
  (with_reducible refine hcon.mono ?_)
  clear hcon
  rintro e W2 ⟨rfl, hb⟩
  replace mp := blk_below mp hb
  replace mt := blk_below mt hb
  replace m3 := blk_below m3 hb
  replace m4 := blk_below m4 hb
  replace mB := below_step mB hb
  clear hb
  have hs_W2 : w.heap.size ≤ W2.heap.size := mB.size
  generalize hR : seenI rate a t = R
  have HR := Lib.hid hR
  clear hR
  have f4_0 := blk_frozen m4 0
  have f4_1 := blk_frozen m4 1
  have c4_0 := (blk_cell m4 0).trans rfl
  have c4_1 := (blk_cell m4 1).trans rfl
  go_wp2
  exact bodyPost_ret (results_cell_row rfl _ _ g4 35 #[.int .i64 R.f0, .int .i64 R.f1] (0, 0) _ rfl (blk_put (blk_put m4 0 _ rfl) 1 _ rfl) Try.underlying35 rfl (by kernel_rfl)) rfl ⟨by rw [HR.out], (mB.setCell hG4 _).setCell hG4 _⟩

/-- The offset of a clock at a reading. -/
def atI (rate : Int) (ys : List S105) (t : Int) : Int × Int := meetF (ys.map fun a => seenI rate a t)

set_option maxRecDepth 100000 in
set_option maxHeartbeats 2000000 in
theorem at_any (b : Nat) (par rate : Int) (ys : List S105) (hl : ys.length ≤ 1000) (t : Int) (w : World) (hF : FaceAt w b par rate ys) :
    Calls Try.prog 58 #[.pointer (some ⟨b, 0, none⟩), .int .i64 t] w fun e w' => e = .returned (.agg #[.int .i64 (atI rate ys t).1, .int .i64 (atI rate ys t).2]) ∧ Below w.heap.size w w' := by
  have hu35 := Try.underlying35
  have hu109 := Try.underlying109
  have hF0 := hF
  obtain ⟨A, c, mf, hlc, hC⟩ := hF
  have cf_0 : ∀ o0_ o1_ o2_, (((w.alloc o0_).alloc o1_).alloc o2_).cell? ⟨b, 0, none⟩ = some (.int .i64 par) := fun o0_ o1_ o2_ => (blk_cell (blk_alloc (blk_alloc (blk_alloc mf o0_) o1_) o2_) 0).trans rfl
  have cf_1 : ∀ o0_ o1_ o2_, (((w.alloc o0_).alloc o1_).alloc o2_).cell? ⟨b, 1, none⟩ = some (.int .i64 rate) := fun o0_ o1_ o2_ => (blk_cell (blk_alloc (blk_alloc (blk_alloc mf o0_) o1_) o2_) 1).trans rfl
  have cf_2 : ∀ o0_ o1_ o2_, (((w.alloc o0_).alloc o1_).alloc o2_).cell? ⟨b, 2, none⟩ = some (.slice A ys.length c) := fun o0_ o1_ o2_ => (blk_cell (blk_alloc (blk_alloc (blk_alloc mf o0_) o1_) o2_) 2).trans rfl
  go_enter Try.func58, Try.ntmps58
  go_wp2_with fail
  clear cf_0
  clear cf_1
  clear cf_2
  have hl_f := blk_lt mf
  have m2 : Blk (((w.alloc (.cells #[.pointer (some ⟨b, 0, none⟩)] 99)).alloc (.cells #[.int .i64 t] 2)).alloc (.cells #[.int .i64 0, .int .i64 0] 35)) (w.heap.size) #[.pointer (some ⟨b, 0, none⟩)] 99 := (blk_alloc (blk_alloc (by have h_ := blk_new w (.cells #[.pointer (some ⟨b, 0, none⟩)] 99); first | exact h_ | (simp only [World.size_alloc] at h_; exact h_)) _) _)
  have m3 : Blk (((w.alloc (.cells #[.pointer (some ⟨b, 0, none⟩)] 99)).alloc (.cells #[.int .i64 t] 2)).alloc (.cells #[.int .i64 0, .int .i64 0] 35)) (w.heap.size + 1) #[.int .i64 t] 2 := (blk_alloc (by have h_ := blk_new (w.alloc (.cells #[.pointer (some ⟨b, 0, none⟩)] 99)) (.cells #[.int .i64 t] 2); first | exact h_ | (simp only [World.size_alloc] at h_; exact h_)) _)
  have m4 : Blk (((w.alloc (.cells #[.pointer (some ⟨b, 0, none⟩)] 99)).alloc (.cells #[.int .i64 t] 2)).alloc (.cells #[.int .i64 0, .int .i64 0] 35)) (w.heap.size + 1 + 1) #[.int .i64 0, .int .i64 0] 35 := (by have h_ := blk_new ((w.alloc (.cells #[.pointer (some ⟨b, 0, none⟩)] 99)).alloc (.cells #[.int .i64 t] 2)) (.cells #[.int .i64 0, .int .i64 0] 35); first | exact h_ | (simp only [World.size_alloc] at h_; exact h_))
  replace mf : Blk (((w.alloc (.cells #[.pointer (some ⟨b, 0, none⟩)] 99)).alloc (.cells #[.int .i64 t] 2)).alloc (.cells #[.int .i64 0, .int .i64 0] 35)) b #[.int .i64 par, .int .i64 rate, .slice A ys.length c] 109 := (blk_alloc (blk_alloc (blk_alloc mf _) _) _)
  have mB : Below w.heap.size w (((w.alloc (.cells #[.pointer (some ⟨b, 0, none⟩)] 99)).alloc (.cells #[.int .i64 t] 2)).alloc (.cells #[.int .i64 0, .int .i64 0] 35)) := (below_alloc (below_alloc (below_alloc (Below.refl w.heap.size w) _) _) _)
  have hsz_ : w.heap.size ≤ w.heap.size := Nat.le_refl _
  generalize hW_ : (((w.alloc (.cells #[.pointer (some ⟨b, 0, none⟩)] 99)).alloc (.cells #[.int .i64 t] 2)).alloc (.cells #[.int .i64 0, .int .i64 0] 35)) = W1 at mf m2 m3 m4 mB ⊢
  clear hW_
  generalize hg2 : w.heap.size = g2 at m2 m3 m4 ⊢
  have hn_f_2 : b ≠ g2 := by omega
  have hn_2_f : g2 ≠ b := hn_f_2.symm
  have hG2 : w.heap.size ≤ g2 := by omega
  generalize hg3 : g2 + 1 = g3 at m3 m4 ⊢
  have hn_f_3 : b ≠ g3 := by omega
  have hn_2_3 : g2 ≠ g3 := by omega
  have hn_3_f : g3 ≠ b := hn_f_3.symm
  have hn_3_2 : g3 ≠ g2 := hn_2_3.symm
  have hG3 : w.heap.size ≤ g3 := by omega
  generalize hg4 : g3 + 1 = g4 at m4 ⊢
  have hn_f_4 : b ≠ g4 := by omega
  have hn_2_4 : g2 ≠ g4 := by omega
  have hn_3_4 : g3 ≠ g4 := by omega
  have hn_4_f : g4 ≠ b := hn_f_4.symm
  have hn_4_2 : g4 ≠ g2 := hn_2_4.symm
  have hn_4_3 : g4 ≠ g3 := hn_3_4.symm
  have hG4 : w.heap.size ≤ g4 := by omega
  clear hsz_ hl_f
  try clear hg4
  try clear hg3
  try clear hg2
  have hs_W1 : w.heap.size ≤ W1.heap.size := mB.size
  refine (values105_any _ _ _ _).mono ?_
  rintro e W_ ⟨rfl, rfl⟩
  have hl_f := blk_lt mf
  have hl_2 := blk_lt m2
  have hl_3 := blk_lt m3
  have hl_4 := blk_lt m4
  have mV : Blk (W1.alloc (.cells #[.slice A ys.length c] 107)) (W1.heap.size) #[.slice A ys.length c] 107 := (by have h_ := blk_new W1 (.cells #[.slice A ys.length c] 107); first | exact h_ | (simp only [World.size_alloc] at h_; exact h_))
  replace mf : Blk (W1.alloc (.cells #[.slice A ys.length c] 107)) b #[.int .i64 par, .int .i64 rate, .slice A ys.length c] 109 := (blk_alloc mf _)
  replace m2 : Blk (W1.alloc (.cells #[.slice A ys.length c] 107)) g2 #[.pointer (some ⟨b, 0, none⟩)] 99 := (blk_alloc m2 _)
  replace m3 : Blk (W1.alloc (.cells #[.slice A ys.length c] 107)) g3 #[.int .i64 t] 2 := (blk_alloc m3 _)
  replace m4 : Blk (W1.alloc (.cells #[.slice A ys.length c] 107)) g4 #[.int .i64 0, .int .i64 0] 35 := (blk_alloc m4 _)
  replace mB : Below w.heap.size w (W1.alloc (.cells #[.slice A ys.length c] 107)) := (below_alloc mB _)
  have hsz_ : w.heap.size ≤ W1.heap.size := hs_W1
  generalize hW_ : (W1.alloc (.cells #[.slice A ys.length c] 107)) = W2 at mf m2 m3 m4 mV mB ⊢
  clear hW_
  generalize hgV : W1.heap.size = gV at mV ⊢
  have hn_f_V : b ≠ gV := by omega
  have hn_2_V : g2 ≠ gV := by omega
  have hn_3_V : g3 ≠ gV := by omega
  have hn_4_V : g4 ≠ gV := by omega
  have hn_V_f : gV ≠ b := hn_f_V.symm
  have hn_V_2 : gV ≠ g2 := hn_2_V.symm
  have hn_V_3 : gV ≠ g3 := hn_3_V.symm
  have hn_V_4 : gV ≠ g4 := hn_4_V.symm
  have hGV : w.heap.size ≤ gV := by omega
  clear hsz_ hl_f hl_2 hl_3 hl_4
  try clear hgV
  have hs_W2 : w.heap.size ≤ W2.heap.size := mB.size
  go_wp2_with fail
  have hcon := meet105_any 102 89 #[.pointer (some ⟨gV, 0, none⟩)] #[.pointer (some ⟨g2, 0, none⟩), .pointer (some ⟨g3, 0, none⟩)] W2 ys (fun a => seenI rate a t) (enters_of Try.func102 (by kernel_rfl) rfl) (enters_of Try.func89 (by kernel_rfl) rfl) (fun W_ hb_ => values105_stops 5 (by omega) gV W2 W_ A c ys hl (Kd.C_below hC mB) hb_ (Nat.lt_of_lt_of_le (blk_lt mV) hb_.size) ((blk_cell (blk_below mV hb_) 0).trans rfl)) (fun a W_ hb_ => at1_any b par rate ys a t g2 g3 W_ (blk_below m2 hb_) (blk_below m3 hb_) ((hF0.below mB).below hb_))
  (with_reducible refine hcon.mono ?_)
  clear hcon
  rintro e W3 ⟨rfl, hb⟩
  replace mf := blk_below mf hb
  replace m2 := blk_below m2 hb
  replace m3 := blk_below m3 hb
  replace m4 := blk_below m4 hb
  replace mV := blk_below mV hb
  replace mB := below_step mB hb
  clear hb
  have hs_W3 : w.heap.size ≤ W3.heap.size := mB.size
  have hm : meetF (ys.map fun a => seenI rate a t) = atI rate ys t := rfl
  rw [hm]
  clear hm
  generalize hR : atI rate ys t = R
  have HR := Lib.hid hR
  clear hR
  have f4_0 : ∀ o_, (W3.alloc o_).frozen? ⟨g4, 0, none⟩ = false := fun o_ => blk_frozen (blk_alloc m4 o_) 0
  have f4_1 : ∀ o_, (W3.alloc o_).frozen? ⟨g4, 1, none⟩ = false := fun o_ => blk_frozen (blk_alloc m4 o_) 1
  have c4_0 : ∀ o_, (W3.alloc o_).cell? ⟨g4, 0, none⟩ = some (.int .i64 0) := fun o_ => (blk_cell (blk_alloc m4 o_) 0).trans rfl
  have c4_1 : ∀ o_, (W3.alloc o_).cell? ⟨g4, 1, none⟩ = some (.int .i64 0) := fun o_ => (blk_cell (blk_alloc m4 o_) 1).trans rfl
  go_wp2
  exact bodyPost_ret (results_cell_row rfl _ _ g4 35 #[.int .i64 R.1, .int .i64 R.2] (0, 0) _ rfl (blk_put (blk_put (blk_alloc m4 _) 0 _ rfl) 1 _ rfl) Try.underlying35 rfl (by kernel_rfl)) rfl ⟨by rw [HR.out], ((below_alloc mB _).setCell hG4 _).setCell hG4 _⟩
end Go.Proofs.Ytcjdhajdoikojaa.Clk
end
