/- Part 7 of the proof of TopSearched: what the functions compute. No condition. -/
import Derived.Test.YthglkoddmpicdaaTsTopSearched3
import Derived.Test.YthglkoddmpicdaaTsTopSearched6
set_option linter.unusedVariables false
set_option linter.unusedSimpArgs false
section
/- The cells that a box touches, one after another. -/
namespace Go.Proofs.Ythglkoddmpicdaa.Gl
open Go.RowKit Go.Shelf Go.Proofs.YthglkoddmpicdaaW.PrintWords Go.Proofs.YthglkoddmpicdaaW.PrintLast Go.Proofs.YthglkoddmpicdaaW.PrintMore Go.Proofs.Ythglkoddmpicdaa.Pr Go.Proofs.YthglkoddmpicdaaW.Round
set_option linter.unusedVariables false
set_option linter.unusedSimpArgs false
attribute [local go_sem] max2_int min2_int max_two min_two max_four
attribute [local go_sem] Oper.semAt_some
def rowT (nx i0 : Int) (n : Nat) (k : Int) : List Int := (List.range n).map fun j : Nat => k * nx + (i0 + (j : Int))
def allT (nx i0 : Int) (n : Nat) (k0 : Int) (m : Nat) : List Int := (List.range m).flatMap fun r : Nat => rowT nx i0 n (k0 + (r : Int))
def uptoT (nx i0 : Int) (n : Nat) (k0 : Int) (q j : Nat) : List Int := allT nx i0 n k0 q ++ rowT nx i0 j (k0 + (q : Int))
theorem uptoT_zero (nx i0 : Int) (n : Nat) (k0 : Int) : uptoT nx i0 n k0 0 0 = [] := rfl
theorem uptoT_row (nx i0 : Int) (n : Nat) (k0 : Int) (q : Nat) : uptoT nx i0 n k0 q 0 = allT nx i0 n k0 q := by unfold uptoT rowT; simp
theorem uptoT_succ (nx i0 : Int) (n : Nat) (k0 : Int) (q j : Nat) : uptoT nx i0 n k0 q (j + 1) = uptoT nx i0 n k0 q j ++ [(k0 + (q : Int)) * nx + (i0 + (j : Int))] := by
 unfold uptoT rowT
 rw [List.range_succ, List.map_append, List.map_singleton, List.append_assoc]
theorem allT_succ (nx i0 : Int) (n : Nat) (k0 : Int) (q : Nat) : allT nx i0 n k0 (q + 1) = uptoT nx i0 n k0 q n := by
 unfold uptoT allT
 rw [List.range_succ, List.flatMap_append, List.flatMap_singleton]
theorem allT_pre (nx i0 : Int) (n : Nat) (k0 : Int) : ∀ (d q : Nat), allT nx i0 n k0 q <+: allT nx i0 n k0 (q + d)
 | 0, q => List.prefix_refl _
 | d + 1, q => by
  refine (allT_pre nx i0 n k0 d q).trans ?_
  rw [show q + (d + 1) = (q + d) + 1 by omega, allT_succ]
  exact List.prefix_append _ _
theorem uptoT_pre {nx i0 : Int} {n : Nat} {k0 : Int} {m q j : Nat} (hq : q < m) (hj : j ≤ n) : uptoT nx i0 n k0 q j <+: allT nx i0 n k0 m := by
 have h1 : uptoT nx i0 n k0 q j <+: uptoT nx i0 n k0 q n := by
  unfold uptoT
  refine (List.prefix_append_right_inj _).2 ?_
  unfold rowT
  refine List.IsPrefix.map _ ?_
  rw [show n = j + (n - j) by omega, List.range_add]
  exact List.prefix_append _ _
 rw [← allT_succ] at h1
 have h2 := allT_pre nx i0 n k0 (m - (q + 1)) (q + 1)
 rw [show q + 1 + (m - (q + 1)) = m by omega] at h2
 exact h1.trans h2
/-- The number of a cell. -/
abbrev CellN (s : Sea) := { c : Int // 0 ≤ c ∧ c < s.nx * s.ny }
/-- The cells that a box touches. -/
def touchL (s : Sea) (x : S29) : List Int := allT s.nx (numI s.cell x.f0 s.nx).1 ((numI s.cell x.f0 s.nx).2 + 1 - (numI s.cell x.f0 s.nx).1).toNat (numI s.cell x.f1 s.ny).1 ((numI s.cell x.f1 s.ny).2 + 1 - (numI s.cell x.f1 s.ny).1).toNat
def AllT (s : Sea) (x : S29) (xs : List (CellN s)) : Prop := xs.map Subtype.val = touchL s x
def PreT (s : Sea) (x : S29) (xs : List (CellN s)) : Prop := xs.map Subtype.val <+: touchL s x
theorem numI_in {c : Int} {a : S27} {most : Int} (hc : 1 ≤ c) (h0 : 0 ≤ a.f0) (h1 : 0 ≤ a.f1) (hm : 1 ≤ most) : (0 ≤ (numI c a most).1 ∧ (numI c a most).1 ≤ most - 1) ∧ (0 ≤ (numI c a most).2 ∧ (numI c a most).2 ≤ most - 1) := by
 have d0 := div_in h0 hc
 have d1 := div_in h1 hc
 unfold numI firstI
 dsimp only
 split <;> omega
/-- A box in the sea. -/
def InSea (s : Sea) (x : S29) : Prop := (0 ≤ x.f0.f0 ∧ x.f0.f0 ≤ 1099511627776) ∧ (0 ≤ x.f0.f1 ∧ x.f0.f1 ≤ 1099511627776) ∧ (0 ≤ x.f1.f0 ∧ x.f1.f0 ≤ 1099511627776) ∧ (0 ≤ x.f1.f1 ∧ x.f1.f1 ≤ 1099511627776)
set_option maxHeartbeats 1000000 in
theorem touched_any (b : Nat) (x : S29) (w : World) : Calls Try.prog 113 #[.pointer (some ⟨b, 0, none⟩), .agg #[.int .i64 x.f0.f0, .int .i64 x.f0.f1, .int .i64 x.f1.f0, .int .i64 x.f1.f1]] w fun e w' => e = .returned (.func (.func 156) #[] #[.pointer (some ⟨w.heap.size, 0, none⟩), .pointer (some ⟨w.heap.size + 1, 0, none⟩)]) ∧ w' = (w.alloc (.cells #[.pointer (some ⟨b, 0, none⟩)] 118)).alloc (.cells #[.int .i64 x.f0.f0, .int .i64 x.f0.f1, .int .i64 x.f1.f0, .int .i64 x.f1.f1] 29) := by
 have hu29 := Try.underlying29
 go_enter Try.func113, Try.ntmps113
 go_wp2
 go_ret
 exact ⟨rfl, rfl⟩
theorem row_in {nx ny k : Int} (hx : 1 ≤ nx) (h0 : 0 ≤ k) (h1 : k ≤ ny - 1) : 0 ≤ k * nx ∧ k * nx ≤ nx * ny - nx := by
 refine ⟨Int.mul_nonneg h0 (by omega), ?_⟩
 have h := Int.mul_le_mul_of_nonneg_right h1 (show 0 ≤ nx by omega)
 rw [Int.sub_mul, Int.one_mul, Int.mul_comm ny nx] at h
 exact h

/-- What the iterator reads. -/
def Env (w0 : World) (bp bx b : Nat) (x : S29) (W : World) : Prop := Below w0.heap.size w0 W ∧ Blk W bp #[.pointer (some ⟨b, 0, none⟩)] 118 ∧ Blk W bx #[.int .i64 x.f0.f0, .int .i64 x.f0.f1, .int .i64 x.f1.f0, .int .i64 x.f1.f1] 29
theorem Env.below {w0 : World} {bp bx b : Nat} {x : S29} {W W1 : World} (h : Env w0 bp bx b x W) (hb : Below W.heap.size W W1) : Env w0 bp bx b x W1 := ⟨below_step h.1 hb, h.2.1.below hb, h.2.2.below hb⟩
set_option maxRecDepth 100000 in
set_option maxHeartbeats 4000000 in
theorem touched1_in (n : Nat) (hn : 1 ≤ n) (l bp bx : Nat) (w0 : World) (b : Nat) (s : Sea) (v : Veh) (x : S29) (hT : TripAt w0 b s v) (hS : SeaN s) (hx : InSea s x) (Kp : World → World → Prop) (hKp : ∀ A B, Kp A B → Env w0 bp bx b x A → Env w0 bp bx b x B) (J Jx : List (CellN s) → World → Prop)
  (hY : ∀ pre c W, J pre W → pre.length < (touchL s x).length → YieldAt Fence.wide (n - 1) Try.prog l #[.int .i64 c.1] W fun e W' =>
   (e = .returned (.bool true) ∧ J (pre ++ [c]) W' ∧ Kp W W') ∨ (e = .returned (.bool false) ∧ Jx (pre ++ [c]) W'))
  (hJa : ∀ (f : List (CellN s)) W W', J f W → Below W.heap.size W W' → J f W')
  (W : World) (hE : Env w0 bp bx b x W) (h0 : J [] W) :
  CallsIn Fence.wide n Try.prog 156 #[.func (.yield l) #[] #[], .pointer (some ⟨bp, 0, none⟩), .pointer (some ⟨bx, 0, none⟩)] W fun e W' => (∃ v, e = .returned v) ∧
   ((∃ xs, AllT s x xs ∧ J xs W') ∨ (∃ pre, PreT s x pre ∧ Jx pre W')) := by
 have hu29 := Try.underlying29
 have hu27 := Try.underlying27
 obtain ⟨⟨x0, x1⟩, ⟨x2, x3⟩, ⟨x4, x5⟩, x6, x7⟩ := hx
 have hcl := hS.cell
 have hnx := hS.nx
 have hny := hS.ny
 have gI := numI_in (c := s.cell) (a := x.f0) (most := s.nx) (by omega) x0 x2 hnx.1
 have gK := numI_in (c := s.cell) (a := x.f1) (most := s.ny) (by omega) x4 x6 hny.1
 have kN := fun W (h : TripAt W b s v) => numbers_any b s v x.f0 s.nx W h hS x0 x1 x2 x3 hnx.1 hnx.2
 have kM := fun W (h : TripAt W b s v) => numbers_any b s v x.f1 s.ny W h hS x4 x5 x6 x7 hny.1 hny.2
 have hAll : touchL s x = allT s.nx (numI s.cell x.f0 s.nx).1 ((numI s.cell x.f0 s.nx).2 + 1 - (numI s.cell x.f0 s.nx).1).toNat (numI s.cell x.f1 s.ny).1 ((numI s.cell x.f1 s.ny).2 + 1 - (numI s.cell x.f1 s.ny).1).toNat := rfl
 generalize numI s.cell x.f0 s.nx = I at *
 generalize numI s.cell x.f1 s.ny = K at *
 obtain ⟨i0, i1⟩ := I
 obtain ⟨k0, k1⟩ := K
 dsimp only at gI gK kN kM hAll
 obtain ⟨⟨i2, i3⟩, i4, i5⟩ := gI
 obtain ⟨⟨k2, k3⟩, k4, k5⟩ := gK
 have HAll := Lib.hid hAll
 clear hAll hcl
 have hE0 := hE
 obtain ⟨hb0, mP, mX⟩ := hE0
 obtain ⟨A7, c7, A8, c8, mT, _⟩ := hT.below hb0
 clear hb0
 refine callsIn_of_wp Try.func156 rfl trivial ?_ rfl
 simp only [Try.ntmps156, List.size_toArray, List.length_cons, List.length_nil, Nat.reduceAdd, Nat.reduceSub, Array.replicate_succ, Array.replicate_zero, List.push_toArray, List.append_toArray, List.nil_append, List.cons_append]
 gi_wp2_with fail
 refine wpIn_only (wpIn_wide.2 ?_)
 replace mT := blk_drew mT
 replace mP := blk_drew mP
 replace mX := blk_drew mX
 replace h0 := hJa _ _ _ h0 (below_drew1 (Below.refl _ _))
 replace hE := hE.below (below_drew1 (Below.refl _ _))
 refine start_ (n := 14) (S := fun w' => w'.cell? ⟨bp, 0, none⟩ = some (.pointer (some ⟨b, 0, none⟩)) ∧ w'.cell? ⟨bx, 0, none⟩ = some (.int .i64 x.f0.f0) ∧ w'.cell? ⟨bx, 1, none⟩ = some (.int .i64 x.f0.f1) ∧ w'.cell? ⟨b, 0, none⟩ = some (.int .i64 s.nx)) (ds := []) #[false, false, false, false, false, false, false, false, false, false, false, false, false, false] zq3 rfl rfl ⟨((blk_cell mP 0).trans rfl), ((blk_cell mX 0).trans rfl), ((blk_cell mX 1).trans rfl), ((blk_cell mT 0).trans rfl)⟩ (fun hHeld => ?_)
 generalize hWd : World.drew _ = Wx at *
 clear hWd
 refine zpz (i := 1) (N := some 12) zq3 ?_
 refine ztz (i := 0) (N := some 11) zq3 hHeld ?_
 refine ztz (i := 2) (N := some 13) zq3 hHeld ?_
 refine ztz (i := 3) (N := some 14) zq3 hHeld ?_
 refine zpz (i := 4) (N := some 15) zq3 ?_
 refine zpz (i := 5) (N := some 16) zq3 ?_
 refine zpz (i := 6) (N := some 17) zq3 ?_
 refine ztz (i := 7) (N := some 18) zq3 hHeld ?_
 refine one_ (i := 8) (N := some 19) #[true, true, true, true, true, true, true, true, true, false, false, false, false, false] rfl rfl zq3 (by decide) (fun K hK => ?_)
 have hcon_ := kN Wx (hT.below hE.1)
 refine goes_ Try.func157 zq3 rfl #[.pointer (some ⟨b, 0, none⟩), .agg #[.int .i64 x.f0.f0, .int .i64 x.f0.f1], .int .i64 s.nx] (by rfl) rfl rfl zq24 ?_
 with_reducible refine (hcon_).mono ?_
 rintro e W1 ⟨rfl, hb2⟩
 refine ⟨_, rfl, ?_⟩
 clear hcon_
 replace mT := blk_below mT hb2
 replace mP := blk_below mP hb2
 replace mX := blk_below mX hb2
 replace h0 := hJa _ _ _ h0 hb2
 replace hE := hE.below hb2
 clear hb2
 refine hK.out _ _ ⟨((blk_cell mP 0).trans rfl), ((blk_cell mX 0).trans rfl), ((blk_cell mX 1).trans rfl), ((blk_cell mT 0).trans rfl)⟩ (fun hHeld => ?_)
 clear hK K
 refine norm_ (by show Act.put _ (some 19) _ = _; simp only [Act.put, List.setIfInBounds_toArray, List.set_cons_zero, List.set_cons_succ, i64_w, i32_w]; rfl) ?_
 refine zpz (i := 9) (N := some 10) zq3 ?_
 refine zpz (i := 10) (N := some 20) zq3 ?_
 refine zpz (i := 11) (N := some 21) zq3 ?_
 refine zpz (i := 12) (N := some 4) zq3 ?_
 refine zpz (i := 13) (N := some 5) zq3 ?_
 refine done_ zq3 ?_
 refine onlyN_normal ?_
 gi_wp2_with fail
 refine wpIn_only (wpIn_wide.2 ?_)
 replace mT := blk_drew mT
 replace mP := blk_drew mP
 replace mX := blk_drew mX
 replace h0 := hJa _ _ _ h0 (below_drew1 (Below.refl _ _))
 replace hE := hE.below (below_drew1 (Below.refl _ _))
 refine start_ (n := 14) (S := fun w' => w'.cell? ⟨bp, 0, none⟩ = some (.pointer (some ⟨b, 0, none⟩)) ∧ w'.cell? ⟨bx, 2, none⟩ = some (.int .i64 x.f1.f0) ∧ w'.cell? ⟨bx, 3, none⟩ = some (.int .i64 x.f1.f1) ∧ w'.cell? ⟨b, 1, none⟩ = some (.int .i64 s.ny)) (ds := []) #[false, false, false, false, false, false, false, false, false, false, false, false, false, false] zq3 rfl rfl ⟨((blk_cell mP 0).trans rfl), ((blk_cell mX 2).trans rfl), ((blk_cell mX 3).trans rfl), ((blk_cell mT 1).trans rfl)⟩ (fun hHeld => ?_)
 generalize hWd : World.drew _ = Wx at *
 clear hWd
 refine zpz (i := 1) (N := some 24) zq3 ?_
 refine ztz (i := 0) (N := some 23) zq3 hHeld ?_
 refine ztz (i := 2) (N := some 25) zq3 hHeld ?_
 refine ztz (i := 3) (N := some 26) zq3 hHeld ?_
 refine zpz (i := 4) (N := some 27) zq3 ?_
 refine zpz (i := 5) (N := some 28) zq3 ?_
 refine zpz (i := 6) (N := some 29) zq3 ?_
 refine ztz (i := 7) (N := some 30) zq3 hHeld ?_
 refine one_ (i := 8) (N := some 31) #[true, true, true, true, true, true, true, true, true, false, false, false, false, false] rfl rfl zq3 (by decide) (fun K hK => ?_)
 have hcon_ := kM Wx (hT.below hE.1)
 refine goes_ Try.func157 zq3 rfl #[.pointer (some ⟨b, 0, none⟩), .agg #[.int .i64 x.f1.f0, .int .i64 x.f1.f1], .int .i64 s.ny] (by rfl) rfl rfl zq24 ?_
 with_reducible refine (hcon_).mono ?_
 rintro e W2 ⟨rfl, hb2⟩
 refine ⟨_, rfl, ?_⟩
 clear hcon_
 replace mT := blk_below mT hb2
 replace mP := blk_below mP hb2
 replace mX := blk_below mX hb2
 replace h0 := hJa _ _ _ h0 hb2
 replace hE := hE.below hb2
 clear hb2
 refine hK.out _ _ ⟨((blk_cell mP 0).trans rfl), ((blk_cell mX 2).trans rfl), ((blk_cell mX 3).trans rfl), ((blk_cell mT 1).trans rfl)⟩ (fun hHeld => ?_)
 clear hK K
 refine norm_ (by show Act.put _ (some 31) _ = _; simp only [Act.put, List.setIfInBounds_toArray, List.set_cons_zero, List.set_cons_succ, i64_w, i32_w]; rfl) ?_
 refine zpz (i := 9) (N := some 22) zq3 ?_
 refine zpz (i := 10) (N := some 32) zq3 ?_
 refine zpz (i := 11) (N := some 33) zq3 ?_
 refine zpz (i := 12) (N := some 6) zq3 ?_
 refine zpz (i := 13) (N := some 7) zq3 ?_
 refine done_ zq3 ?_
 refine onlyN_normal ?_
 clear mT mP mX kN kM
 gi_wp2
 gi_loopw [8] (fun i wr => ∃ (q : Nat) (pre : List (CellN s)), q ≤ (k1 + 1 - k0).toNat ∧ i = .int .i64 (k0 + (q : Int)) ∧ Hid (pre.map Subtype.val = uptoT s.nx i0 (i1 + 1 - i0).toNat k0 q 0) ∧ Env w0 bp bx b x wr ∧ J pre wr) (fun i _ => (k1 + 1 - intOf i).toNat)
 case atStart => exact ⟨0, [], Nat.zero_le _, by simp, Lib.hid (by rw [uptoT_zero]; rfl), hE, h0⟩
 case round =>
  clear hE h0
  obtain ⟨q, pre, hq, rfl, HP, hE, hJs⟩ := hrel
  by_cases hlt : k0 + (q : Int) ≤ k1
  ·gi_wp2
   gi_loopw [9] (fun i wr2 => ∃ (j : Nat) (pre2 : List (CellN s)), j ≤ (i1 + 1 - i0).toNat ∧ i = .int .i64 (i0 + (j : Int)) ∧ Hid (pre2.map Subtype.val = uptoT s.nx i0 (i1 + 1 - i0).toNat k0 q j) ∧ Env w0 bp bx b x wr2 ∧ J pre2 wr2) (fun i _ => (i1 + 1 - intOf i).toNat)
   case atStart => exact ⟨0, pre, Nat.zero_le _, by simp, HP, hE, hJs⟩
   case round =>
    clear hE hJs
    obtain ⟨j, pre2, hj, rfl, HQ, hE, hJ2⟩ := hrel
    by_cases hjk : i0 + (j : Int) ≤ i1
    ·have hlen : pre2.length < (touchL s x).length := by
      have h1 := uptoT_pre (nx := s.nx) (i0 := i0) (k0 := k0) (show q < (k1 + 1 - k0).toNat by omega) (show j + 1 ≤ (i1 + 1 - i0).toNat by omega)
      have h2 := h1.length_le
      rw [uptoT_succ, ← HQ.out, ← HAll.out] at h2
      simp at h2
      omega
     have hr := row_in (ny := s.ny) (k := k0 + (q : Int)) hnx.1 (by omega) (by omega)
     have hxy := mul_in (show 0 ≤ s.nx by omega) hnx.2 (show 0 ≤ s.ny by omega) hny.2
     obtain ⟨fn, tmps, assign, body, hy, hR⟩ := hY pre2 ⟨(k0 + (q : Int)) * s.nx + (i0 + (j : Int)), by omega, by omega⟩ _ hJ2 hlen
     dsimp only at hy
     have hE0 := hE
     obtain ⟨hb0, mP, _⟩ := hE0
     obtain ⟨A7, c7, A8, c8, mT, _⟩ := hT.below hb0
     clear hb0
     have cP := (blk_cell mP 0).trans rfl
     have cT := (blk_cell mT 0).trans rfl
     clear mT mP
     gi_wp2
     refine hR.mono ?_
     rintro e W3 (⟨rfl, hJ3, hk3⟩ | ⟨rfl, hJx3⟩)
     ·clear cP cT
      have hE3 := hKp _ _ hk3 hE
      clear hk3 hE
      gi_wp2
      go_roundw
      case rel => exact ⟨j + 1, _, by omega, by simp; omega, Lib.hid (by rw [List.map_append, HQ.out, uptoT_succ]; rfl), hE3, hJ3⟩
      case measure => simp [intOf]; omega
     ·gi_wp2
      refine bodyPost_ret (results_none rfl _ _ _) rfl ?_
      refine ⟨⟨_, rfl⟩, .inr ⟨_, ?_, hJx3⟩⟩
      show List.map Subtype.val _ <+: _
      rw [List.map_append, HQ.out, List.map_singleton, ← uptoT_succ, HAll.out]
      exact uptoT_pre (by omega) (by omega)
    ·obtain rfl : j = (i1 + 1 - i0).toNat := by omega
     gi_wp2
     go_roundw
     case rel => exact ⟨q + 1, pre2, by omega, by simp; omega, Lib.hid (by rw [HQ.out, uptoT_row, ← allT_succ]), hE, hJ2⟩
     case measure => simp [intOf]; omega
  ·obtain rfl : q = (k1 + 1 - k0).toNat := by omega
   gi_wp2
   go_end0
   exact ⟨⟨_, rfl⟩, .inl ⟨pre, by unfold AllT; rw [HAll.out, HP.out, uptoT_row], hJs⟩⟩
end Go.Proofs.Ythglkoddmpicdaa.Gl
end
section
/- Does a box touch a shore? -/
namespace Go.Proofs.Ythglkoddmpicdaa.Gl
open Go.RowKit Go.Shelf Go.Proofs.YthglkoddmpicdaaW.PrintWords Go.Proofs.YthglkoddmpicdaaW.PrintLast Go.Proofs.YthglkoddmpicdaaW.PrintMore Go.Proofs.Ythglkoddmpicdaa.Pr Go.Proofs.YthglkoddmpicdaaW.Round
set_option linter.unusedVariables false
set_option linter.unusedSimpArgs false
attribute [local go_sem] max2_int min2_int max_two min_two max_four
attribute [local go_sem] Oper.semAt_some
theorem Blk.belowH {W W1 : World} {b : Nat} {c : Array Value} {t : TypeId} (h : W.heap[b]? = some (.cells c t (0, 0))) (hb : Below W.heap.size W W1) : Blk W1 b c t := (hb.block b (Array.getElem?_eq_some_iff.1 h).1).trans h
theorem blk_grownO {B b : Nat} {c : Array Value} {t : TypeId} {X Y : World} {row : Option Nat} (hs : Blk X b c t) (hg : X.grownBy Y row) (hr : ∀ r, row = some r → B ≤ r ∧ ∃ o : Obj, X.heap[r]? = some o ∧ o.isCells = false) : Blk Y b c t :=
 (hg.block b (Array.getElem?_eq_some_iff.1 hs).1 (fun e => by obtain ⟨_, o, ho, hc⟩ := hr b e.symm; rw [show X.heap[b]? = _ from hs] at ho; cases ho; cases hc)).trans hs
theorem keepsFrom_below {B : Nat} {W W1 : World} (hb : Below W.heap.size W W1) : KeepsFrom B W W1 :=
 ⟨hb.size, fun k o _ h0 _ => (hb.block k (Array.getElem?_eq_some_iff.1 h0).1).trans h0⟩
theorem blk_ownFrom {β : Type} (B b : Nat) (f : β → Array Value) (t : TypeId) : OwnFrom B (fun s W => Blk W b (f s) t) := fun s X Y row hs hg hr => blk_grownO hs hg hr
theorem ownFrom_pure {β : Type} (B : Nat) (f : β → Prop) : OwnFrom B (fun s (_ : World) => f s) := fun s X Y row hs hg hr => hs
/-- A result in a cell of one number. -/
theorem results_ci {P : Program} {fn : Func} {p : Tmp} {ty : TypeId} {k : IntKind} (h : fn.results = #[.cell p ty]) (tmps : Array Value) (w : World) (g : Nat) (t : TypeId) (v : Value) (hp : tmps.getD p undef = .pointer (some ⟨g, 0, none⟩)) (hg : w.heap[g]? = some (.cells #[v] t (0, 0))) (hu : P.underlying ty = some (.int k)) :
  (results fn tmps).run P w = .ok v w := by
 have hp' : tmps[p]?.getD undef = .pointer (some ⟨g, 0, none⟩) := by simpa using hp
 have hc : w.cell? ⟨g, 0, none⟩ = some v := (blk_cell hg 0).trans rfl
 have hb : (loadVar ty ⟨g, 0, none⟩).run P w = .ok v w := by
  have ha : (isAgg ty).run P w = .ok false w := by
   unfold isAgg
   rw [Sem.run_bind, run_underlying hu w]
   rfl
  unfold loadVar
  rw [Sem.run_bind, ha]
  go_simp
 simp [results, h, hp', asAddr, hb]
/-- The error of a box that touches a shore. -/
def safeE (s : Sea) (x : S29) : Int := if (touchL s x).any (fun c => rdOf false s.shores c) then 21 else 0
theorem safe_no {s : Sea} {x : S29} {xs : List (CellN s)} (h : AllT s x xs) (hf : ∀ c ∈ xs, rdOf false s.shores c.1 = false) : safeE s x = 0 := by
 unfold safeE
 rw [← show xs.map Subtype.val = touchL s x from h, if_neg]
 rw [List.any_map, List.any_eq_true]
 rintro ⟨c, hc, h1⟩
 have h2 := hf c hc
 rw [show rdOf false s.shores c.1 = true from h1] at h2
 cases h2
theorem safe_yes {s : Sea} {x : S29} {ini : List (CellN s)} {last : CellN s} (h : PreT s x (ini ++ [last])) (hl : rdOf false s.shores last.1 = true) : safeE s x = 21 := by
 unfold safeE
 obtain ⟨t, ht⟩ := h
 rw [← ht, if_pos]
 rw [List.map_append, List.any_append, List.any_append]
 simp [hl]
set_option maxRecDepth 100000 in
set_option maxHeartbeats 4000000 in
theorem safe_any (b : Nat) (s : Sea) (v : Veh) (x : S29) (w : World) (hT : TripAt w b s v) (hS : SeaN s) (hx : InSea s x) (hsh : (s.shores.length : Int) = s.nx * s.ny) :
  Calls Try.prog 134 #[.pointer (some ⟨b, 0, none⟩), .agg #[.int .i64 x.f0.f0, .int .i64 x.f0.f1, .int .i64 x.f1.f0, .int .i64 x.f1.f1]] w (RetB (.int .i64 (safeE s x)) w) := by
 have hu29 := Try.underlying29
 have hxy := mul_in (show 0 ≤ s.nx by have := hS.nx; omega) hS.nx.2 (show 0 ≤ s.ny by have := hS.ny; omega) hS.ny.2
 have HSH := Lib.hid hsh
 clear hsh
 refine (callsIn_wide (n := 6)).1 ?_
 refine callsIn_of_wp_marks Try.func134 rfl trivial ?_ rfl
 simp only [Try.ntmps134, List.size_toArray, List.length_cons, List.length_nil, Nat.reduceAdd, Nat.reduceSub, Array.replicate_succ, Array.replicate_zero, List.push_toArray, List.append_toArray, List.nil_append, List.cons_append]
 gi_wp2_with fail
 refine ⟨trivial, (callsIn_wide.2 (touched_any _ _ _)).mono ?_⟩
 rintro e W_ ⟨rfl, rfl⟩
 gi_wp2_with fail
 have m2 : Blk (((((w.alloc (.cells #[.pointer (some ⟨b, 0, none⟩)] 118)).alloc (.cells #[.int .i64 x.f0.f0, .int .i64 x.f0.f1, .int .i64 x.f1.f0, .int .i64 x.f1.f1] 29)).alloc (.cells #[.int .i64 0] 34)).alloc (.cells #[.pointer (some ⟨b, 0, none⟩)] 118)).alloc (.cells #[.int .i64 x.f0.f0, .int .i64 x.f0.f1, .int .i64 x.f1.f0, .int .i64 x.f1.f1] 29)) (w.heap.size) #[.pointer (some ⟨b, 0, none⟩)] 118 := (blk_alloc (blk_alloc (blk_alloc (blk_alloc zq25 _) _) _) _)
 have m3 : Blk (((((w.alloc (.cells #[.pointer (some ⟨b, 0, none⟩)] 118)).alloc (.cells #[.int .i64 x.f0.f0, .int .i64 x.f0.f1, .int .i64 x.f1.f0, .int .i64 x.f1.f1] 29)).alloc (.cells #[.int .i64 0] 34)).alloc (.cells #[.pointer (some ⟨b, 0, none⟩)] 118)).alloc (.cells #[.int .i64 x.f0.f0, .int .i64 x.f0.f1, .int .i64 x.f1.f0, .int .i64 x.f1.f1] 29)) (w.heap.size + 1) #[.int .i64 x.f0.f0, .int .i64 x.f0.f1, .int .i64 x.f1.f0, .int .i64 x.f1.f1] 29 := (blk_alloc (blk_alloc (blk_alloc zq26 _) _) _)
 have m4 : Blk (((((w.alloc (.cells #[.pointer (some ⟨b, 0, none⟩)] 118)).alloc (.cells #[.int .i64 x.f0.f0, .int .i64 x.f0.f1, .int .i64 x.f1.f0, .int .i64 x.f1.f1] 29)).alloc (.cells #[.int .i64 0] 34)).alloc (.cells #[.pointer (some ⟨b, 0, none⟩)] 118)).alloc (.cells #[.int .i64 x.f0.f0, .int .i64 x.f0.f1, .int .i64 x.f1.f0, .int .i64 x.f1.f1] 29)) (w.heap.size + 1 + 1) #[.int .i64 0] 34 := (blk_alloc (blk_alloc (by have h_ := blk_new ((w.alloc (.cells #[.pointer (some ⟨b, 0, none⟩)] 118)).alloc (.cells #[.int .i64 x.f0.f0, .int .i64 x.f0.f1, .int .i64 x.f1.f0, .int .i64 x.f1.f1] 29)) (.cells #[.int .i64 0] 34); first | exact h_ | (simp only [World.size_alloc] at h_; exact h_)) _) _)
 have mP : Blk (((((w.alloc (.cells #[.pointer (some ⟨b, 0, none⟩)] 118)).alloc (.cells #[.int .i64 x.f0.f0, .int .i64 x.f0.f1, .int .i64 x.f1.f0, .int .i64 x.f1.f1] 29)).alloc (.cells #[.int .i64 0] 34)).alloc (.cells #[.pointer (some ⟨b, 0, none⟩)] 118)).alloc (.cells #[.int .i64 x.f0.f0, .int .i64 x.f0.f1, .int .i64 x.f1.f0, .int .i64 x.f1.f1] 29)) (w.heap.size + 1 + 1 + 1) #[.pointer (some ⟨b, 0, none⟩)] 118 := (blk_alloc (by have h_ := blk_new (((w.alloc (.cells #[.pointer (some ⟨b, 0, none⟩)] 118)).alloc (.cells #[.int .i64 x.f0.f0, .int .i64 x.f0.f1, .int .i64 x.f1.f0, .int .i64 x.f1.f1] 29)).alloc (.cells #[.int .i64 0] 34)) (.cells #[.pointer (some ⟨b, 0, none⟩)] 118); first | exact h_ | (simp only [World.size_alloc] at h_; exact h_)) _)
 have mX : Blk (((((w.alloc (.cells #[.pointer (some ⟨b, 0, none⟩)] 118)).alloc (.cells #[.int .i64 x.f0.f0, .int .i64 x.f0.f1, .int .i64 x.f1.f0, .int .i64 x.f1.f1] 29)).alloc (.cells #[.int .i64 0] 34)).alloc (.cells #[.pointer (some ⟨b, 0, none⟩)] 118)).alloc (.cells #[.int .i64 x.f0.f0, .int .i64 x.f0.f1, .int .i64 x.f1.f0, .int .i64 x.f1.f1] 29)) (w.heap.size + 1 + 1 + 1 + 1) #[.int .i64 x.f0.f0, .int .i64 x.f0.f1, .int .i64 x.f1.f0, .int .i64 x.f1.f1] 29 := (by have h_ := blk_new ((((w.alloc (.cells #[.pointer (some ⟨b, 0, none⟩)] 118)).alloc (.cells #[.int .i64 x.f0.f0, .int .i64 x.f0.f1, .int .i64 x.f1.f0, .int .i64 x.f1.f1] 29)).alloc (.cells #[.int .i64 0] 34)).alloc (.cells #[.pointer (some ⟨b, 0, none⟩)] 118)) (.cells #[.int .i64 x.f0.f0, .int .i64 x.f0.f1, .int .i64 x.f1.f0, .int .i64 x.f1.f1] 29); first | exact h_ | (simp only [World.size_alloc] at h_; exact h_))
 have mB : Below w.heap.size w (((((w.alloc (.cells #[.pointer (some ⟨b, 0, none⟩)] 118)).alloc (.cells #[.int .i64 x.f0.f0, .int .i64 x.f0.f1, .int .i64 x.f1.f0, .int .i64 x.f1.f1] 29)).alloc (.cells #[.int .i64 0] 34)).alloc (.cells #[.pointer (some ⟨b, 0, none⟩)] 118)).alloc (.cells #[.int .i64 x.f0.f0, .int .i64 x.f0.f1, .int .i64 x.f1.f0, .int .i64 x.f1.f1] 29)) := (below_alloc (below_alloc (below_alloc (below_alloc (below_alloc (Below.refl w.heap.size w) _) _) _) _) _)
 have hsz_ : w.heap.size ≤ w.heap.size := Nat.le_refl _
 generalize hW_ : (((((w.alloc (.cells #[.pointer (some ⟨b, 0, none⟩)] 118)).alloc (.cells #[.int .i64 x.f0.f0, .int .i64 x.f0.f1, .int .i64 x.f1.f0, .int .i64 x.f1.f1] 29)).alloc (.cells #[.int .i64 0] 34)).alloc (.cells #[.pointer (some ⟨b, 0, none⟩)] 118)).alloc (.cells #[.int .i64 x.f0.f0, .int .i64 x.f0.f1, .int .i64 x.f1.f0, .int .i64 x.f1.f1] 29)) = W0 at m2 m3 m4 mP mX mB ⊢
 clear hW_
 generalize hg2 : w.heap.size = g2 at m2 m3 m4 mP mX ⊢
 have hG2 : w.heap.size ≤ g2 := by omega
 generalize hg3 : g2 + 1 = g3 at m3 m4 mP mX ⊢
 have hn_2_3 : g2 ≠ g3 := by omega
 have hn_3_2 : g3 ≠ g2 := hn_2_3.symm
 have hG3 : w.heap.size ≤ g3 := by omega
 generalize hg4 : g3 + 1 = g4 at m4 mP mX ⊢
 have hn_2_4 : g2 ≠ g4 := by omega
 have hn_3_4 : g3 ≠ g4 := by omega
 have hn_4_2 : g4 ≠ g2 := hn_2_4.symm
 have hn_4_3 : g4 ≠ g3 := hn_3_4.symm
 have hG4 : w.heap.size ≤ g4 := by omega
 generalize hgP : g4 + 1 = gP at mP mX ⊢
 have hn_2_P : g2 ≠ gP := by omega
 have hn_3_P : g3 ≠ gP := by omega
 have hn_4_P : g4 ≠ gP := by omega
 have hn_P_2 : gP ≠ g2 := hn_2_P.symm
 have hn_P_3 : gP ≠ g3 := hn_3_P.symm
 have hn_P_4 : gP ≠ g4 := hn_4_P.symm
 have hGP : w.heap.size ≤ gP := by omega
 generalize hgX : gP + 1 = gX at mX ⊢
 have hn_2_X : g2 ≠ gX := by omega
 have hn_3_X : g3 ≠ gX := by omega
 have hn_4_X : g4 ≠ gX := by omega
 have hn_P_X : gP ≠ gX := by omega
 have hn_X_2 : gX ≠ g2 := hn_2_X.symm
 have hn_X_3 : gX ≠ g3 := hn_3_X.symm
 have hn_X_4 : gX ≠ g4 := hn_4_X.symm
 have hn_X_P : gX ≠ gP := hn_P_X.symm
 have hGX : w.heap.size ≤ gX := by omega
 clear hsz_
 try clear hgX
 try clear hgP
 try clear hg4
 try clear hg3
 try clear hg2
 have hs_W0 : w.heap.size ≤ W0.heap.size := mB.size
 refine wpIn_rangeFunc_ownH rfl (by omega) (gf := 156) (lb := #[.pointer (some ⟨gP, 0, none⟩), .pointer (some ⟨gX, 0, none⟩)]) rfl trivial (enters_of Try.func156 zq3 rfl)
  (encs := fun c : CellN s => #[.int .i64 c.1]) (Kp := Below W0.heap.size) (S := AllT s x) (Sp := PreT s x) (N := (touchL s x).length) (w0 := W0)
  (fun l J Jx W hW hJ _ hY h0 => touched1_in 5 (by omega) l gP gX W0 b s v x (hT.below mB) hS hx (Below W0.heap.size) (fun A B h hE => ⟨hE.1.trans h, (h.block gP (blk_lt mP)).trans hE.2.1, (h.block gX (blk_lt mX)).trans hE.2.2⟩) J Jx hY (fun f X Y h hB => hJ f X Y none h ⟨hB.os, hB.tape, hB.output, hB.size, fun k hk _ => hB.block k hk⟩ (fun r e => by cases e)) W ⟨hW, Blk.belowH mP hW, Blk.belowH mX hW⟩ h0) belowK_t (belowK_b (by omega)) (Below.refl _ _) (fun _ => rfl)
  (fun pre W => (∀ c ∈ pre, rdOf false s.shores c.1 = false) ∧ Blk W g2 #[.pointer (some ⟨b, 0, none⟩)] 118 ∧ Blk W g4 #[.int .i64 0] 34 ∧ Below w.heap.size w W)
  (fun c pre W => ∃ ini last, (c = .ret ∧ pre = ini ++ [last] ∧ rdOf false s.shores last.1 = true) ∧ Blk W g4 #[.int .i64 21] 34 ∧ Below w.heap.size w W)
  (OwnFrom.and (ownFrom_pure _ _) (OwnFrom.and (blk_ownFrom _ _ (fun _ => _) _) (OwnFrom.and (blk_ownFrom _ _ (fun _ => _) _) (ownFrom_below (by omega) (by omega)))))
  (fun c pre X Y row hs hg hr => by
   obtain ⟨ini, last, h1, h2, h3⟩ := hs
   exact ⟨ini, last, h1, blk_grownO h2 hg hr, ownFrom_below (by omega) (by omega) () X Y row h3 hg hr⟩)
  ⟨by simp, m2, m4, mB⟩
  (fun c a' W => a' = { tmps := #[.pointer (some ⟨b, 0, none⟩), .agg #[.int .i64 x.f0.f0, .int .i64 x.f0.f1, .int .i64 x.f1.f0, .int .i64 x.f1.f1], .pointer (some ⟨g2, 0, none⟩), .pointer (some ⟨g3, 0, none⟩), .pointer (some ⟨g4, 0, none⟩), .int .i64 c.1, .pointer (some ⟨b, 0, none⟩), .agg #[.int .i64 x.f0.f0, .int .i64 x.f0.f1, .int .i64 x.f1.f0, .int .i64 x.f1.f1], .func (.func 156) #[] #[.pointer (some ⟨gP, 0, none⟩), .pointer (some ⟨gX, 0, none⟩)], .int .i64 c.1, undef, undef, undef, undef, undef, undef, undef, undef], defers := [] })
  (fun c a' s X Y row hs hg hr => hs) ?assign ?body ?done ?stop
 case assign =>
  rintro l pre c W K hI hK
  gi_wp2
  exact hK _ _ ((KeepsOthers.refl W).from _) (Below.refl _ _) hI rfl
 case body =>
  rintro l pre c a' W hlW ⟨r, hr⟩ ⟨h0, h2, h4, hB⟩ rfl hlen
  have hT2 := hT.below hB
  obtain ⟨A7, c7, A8, c8, hBt, q1, q2, _⟩ := hT2
  have hlt : c.1 < (s.shores.length : Int) := by rw [HSH.out]; exact c.2.2
  have hge := c.2.1
  obtain ⟨ad, e_, hx_⟩ := Kd.at_bool q2 c.1 hge hlt
  cases e_
  have c2 := (blk_cell h2 0).trans rfl
  have ct := (blk_cell hBt 7).trans rfl
  clear hBt q1 q2 hr
  cases hv : rdOf false s.shores c.1 with
  | false =>
   rw [hv] at hx_
   have HV := Lib.hid hv
   clear hv
   gi_wp2
   exact ⟨(KeepsOthers.refl W).from _, Below.refl _ _, by
    intro p hp
    rcases List.mem_append.1 hp with hp | hp
    ·exact h0 p hp
    ·obtain rfl := List.mem_singleton.1 hp
     exact HV.out, h2, h4, hB⟩
  | true =>
   rw [hv] at hx_
   have HV := Lib.hid hv
   clear hv
   have c4 := (blk_cell h4 0).trans rfl
   have f4 := blk_frozen h4 0
   gi_wp2
   exact ⟨(KeepsOthers.setCell _ _ _).from _, pre, c, ⟨rfl, rfl, HV.out⟩, blk_put h4 0 _ rfl, hB.setCell hG4 _⟩
 case done =>
  rintro D_ xs W hD hxs ⟨h0, h2, h4, hB⟩ hK
  have hE := Lib.hid (safe_no hxs h0)
  clear h0
  have c4 := (blk_cell h4 0).trans rfl
  have f4 := blk_frozen h4 0
  gi_wp2
  have hne : D_ ≠ g4 := by have h_ := blk_lt m4; omega
  refine ⟨by simp, .inl ⟨_, _, rfl, run_takeDeferred ((Below.heap_setCell _ _ _ D_ hne).trans hK), ?_⟩⟩
  exact ⟨_, results_ci rfl _ _ g4 34 (.int .i64 0) rfl ((World.putObj_heap_other (fun e => hne e.symm)).trans (blk_put h4 0 _ rfl)) Try.underlying34, by rw [hE.out], (hB.setCell hG4 _).trans (belowK_b (w := w) (Nat.le_refl _) _ D_ _ _ (by have h_ := hB.size; omega) ((Below.heap_setCell _ _ _ D_ hne).trans hK) rfl rfl)⟩
 case stop =>
  rintro D_ c pre W hD hp ⟨ini, last, ⟨rfl, rfl, h1⟩, h4, hB⟩ hK
  have hE := Lib.hid (safe_yes hp h1)
  gi_wp2
  have hne : D_ ≠ g4 := by have h_ := blk_lt m4; omega
  refine ⟨by simp, .inl ⟨_, _, rfl, run_takeDeferred hK, ?_⟩⟩
  exact ⟨_, results_ci rfl _ _ g4 34 (.int .i64 21) rfl ((World.putObj_heap_other (fun e => hne e.symm)).trans h4) Try.underlying34, by rw [hE.out], hB.trans (belowK_b (w := w) (Nat.le_refl _) _ D_ _ _ (by omega) hK rfl rfl)⟩
end Go.Proofs.Ythglkoddmpicdaa.Gl
end
section
namespace Go.Proofs.Ythglkoddmpicdaa.Pr
open Go.RowKit Go.Proofs.YthglkoddmpicdaaW.PrintWords Go.Proofs.YthglkoddmpicdaaW.PrintLast Go.Proofs.YthglkoddmpicdaaW.PrintMore
attribute [local go_sem] max2_int min2_int max_two min_two max_four
set_option linter.unusedVariables false
set_option linter.unusedSimpArgs false

/-! ### glider_hull: function 114 -/
def glider_hull.f (a0_0 : Int) (a0_1 : Int) (a0_2 : Int) (a0_3 : Int) (a1_0 : Int) (a1_1 : Int) (a1_2 : Int) (a1_3 : Int) : Option (Int × Int × Int × Int) := some (mn a0_0 a1_0, mx a0_1 a1_1, mn a0_2 a1_2, mx a0_3 a1_3)
set_option maxHeartbeats 8000000 in
set_option maxRecDepth 100000 in
theorem glider_hull.calls (a0_0 : Int) (a0_1 : Int) (a0_2 : Int) (a0_3 : Int) (a1_0 : Int) (a1_1 : Int) (a1_2 : Int) (a1_3 : Int) (r1 : Int) (r2 : Int) (r3 : Int) (r4 : Int) (w : World) (h : glider_hull.f a0_0 a0_1 a0_2 a0_3 a1_0 a1_1 a1_2 a1_3 = some (r1, r2, r3, r4)) :
  Calls Try.prog 114 #[.agg #[.int .i64 a0_0, .int .i64 a0_1, .int .i64 a0_2, .int .i64 a0_3], .agg #[.int .i64 a1_0, .int .i64 a1_1, .int .i64 a1_2, .int .i64 a1_3]] w fun e w' => e = .returned (.agg #[.int .i64 r1, .int .i64 r2, .int .i64 r3, .int .i64 r4]) ∧ Below w.heap.size w w' := by
 have hu29 := Try.underlying29
 have hu27 := Try.underlying27
 have HB := Aside0.mk (Below.refl w.heap.size w)
 have H : (some (mn a0_0 a1_0, mx a0_1 a1_1, mn a0_2 a1_2, mx a0_3 a1_3)) = some (r1, r2, r3, r4) := h
 clear h
 obtain ⟨ji3, hji3⟩ : ∃ j_ : Int, (mn a0_0 a1_0) = j_ := ⟨_, rfl⟩
 replace H : (some (ji3, mx a0_1 a1_1, mn a0_2 a1_2, mx a0_3 a1_3)) = some (r1, r2, r3, r4) := by first | (rw [hji3] at H; exact H) | (simp only [hji3] at H ⊢; exact H)
 have hji3_ : (if a1_0 < a0_0 then a1_0 else a0_0) = ji3 := hji3
 obtain ⟨ji4, hji4⟩ : ∃ j_ : Int, (mx a0_1 a1_1) = j_ := ⟨_, rfl⟩
 replace H : (some (ji3, ji4, mn a0_2 a1_2, mx a0_3 a1_3)) = some (r1, r2, r3, r4) := by first | (rw [hji4] at H; exact H) | (simp only [hji4] at H ⊢; exact H)
 have hji4_ : (if a0_1 < a1_1 then a1_1 else a0_1) = ji4 := hji4
 obtain ⟨ji5, hji5⟩ : ∃ j_ : Int, (mn a0_2 a1_2) = j_ := ⟨_, rfl⟩
 replace H : (some (ji3, ji4, ji5, mx a0_3 a1_3)) = some (r1, r2, r3, r4) := by first | (rw [hji5] at H; exact H) | (simp only [hji5] at H ⊢; exact H)
 have hji5_ : (if a1_2 < a0_2 then a1_2 else a0_2) = ji5 := hji5
 obtain ⟨ji6, hji6⟩ : ∃ j_ : Int, (mx a0_3 a1_3) = j_ := ⟨_, rfl⟩
 replace H : (some (ji3, ji4, ji5, ji6)) = some (r1, r2, r3, r4) := by first | (rw [hji6] at H; exact H) | (simp only [hji6] at H ⊢; exact H)
 have hji6_ : (if a0_3 < a1_3 then a1_3 else a0_3) = ji6 := hji6
 simp only [Option.some.injEq, Prod.mk.injEq] at H
 obtain ⟨rfl, rfl, rfl, rfl⟩ := H
 go_enter Try.func114, Try.ntmps114
 go_wp2_with (first | ((with_reducible refine gate_dst (N := 2) rfl ?_); refine box_event (by rfl) (N := 2) (by rfl) (cs := #[.int .i64 a0_0, .int .i64 a0_1, .int .i64 a0_2, .int .i64 a0_3]) (t := 29) zq1 ?_; intro gb153 hg w7 hbox hb; have BK153 := Aside0.mk (hbox); have GW153 := zgs HB hg; have GE153 := zgs HB hg; replace HB := zbs HB hb; clear hb hbox hg) | ((with_reducible refine gate_dst (N := 3) rfl ?_); refine box_event (by rfl) (N := 3) (by rfl) (cs := #[.int .i64 a1_0, .int .i64 a1_1, .int .i64 a1_2, .int .i64 a1_3]) (t := 29) zq1 ?_; intro gb154 hg w8 hbox hb; have BK154 := Aside0.mk (hbox); have GW154 := zgs HB hg; have GE154 := zgs HB hg; have NB153_154 := znp BK153 hg; have NB154_153 := znq BK153 hg; replace BK153 := zbb BK153 hb; replace HB := zbs HB hb; clear hb hbox hg) | ((with_reducible refine gate_dst (N := 4) rfl ?_); refine box_event (by rfl) (N := 4) (by rfl) (cs := #[.int .i64 0, .int .i64 0, .int .i64 0, .int .i64 0]) (t := 29) zq1 ?_; intro gb155 hg w9 hbox hb; have BK155 := Aside0.mk (hbox); have GW155 := zgs HB hg; have GE155 := zgs HB hg; have NB153_155 := znp BK153 hg; have NB155_153 := znq BK153 hg; have NB154_155 := znp BK154 hg; have NB155_154 := znq BK154 hg; replace BK153 := zbb BK153 hb; replace BK154 := zbb BK154 hb; replace HB := zbs HB hb; clear hb hbox hg; have hnb10 := NB153_154.out; have hnc10 := NB154_153.out; have hnb11 := NB153_155.out; have hnc11 := NB155_153.out; obtain ⟨hcz12_0, hcz12_1, hcz12_2, hcz12_3, hfz12_0, hfz12_1, hfz12_2, hfz12_3⟩ := zce4 BK153.out; have hnb13 := NB154_155.out; have hnc13 := NB155_154.out; obtain ⟨hcz14_0, hcz14_1, hcz14_2, hcz14_3, hfz14_0, hfz14_1, hfz14_2, hfz14_3⟩ := zce4 BK154.out; obtain ⟨hcz15_0, hcz15_1, hcz15_2, hcz15_3, hfz15_0, hfz15_1, hfz15_2, hfz15_3⟩ := zce4 BK155.out))
 refine bodyPost_ret (results_cell_row rfl _ _ gb155 29 #[.int .i64 ji3, .int .i64 ji4, .int .i64 ji5, .int .i64 ji6] (0, 0) _ rfl (by (with_reducible repeat (first | refine blk_drewN ?_ _ | refine blk_drew ?_ | refine blk_alloc ?_ _)); refine blk_put (cs := #[.int .i64 ji3, .int .i64 ji4, .int .i64 ji5, .int .i64 0]) ?_ 3 _ rfl; (with_reducible repeat (first | refine blk_drewN ?_ _ | refine blk_drew ?_ | refine blk_alloc ?_ _)); refine blk_put (cs := #[.int .i64 ji3, .int .i64 ji4, .int .i64 0, .int .i64 0]) ?_ 2 _ rfl; (with_reducible repeat (first | refine blk_drewN ?_ _ | refine blk_drew ?_ | refine blk_alloc ?_ _)); refine blk_put (cs := #[.int .i64 ji3, .int .i64 0, .int .i64 0, .int .i64 0]) ?_ 1 _ rfl; (with_reducible repeat (first | refine blk_drewN ?_ _ | refine blk_drew ?_ | refine blk_alloc ?_ _)); refine blk_put (cs := #[.int .i64 0, .int .i64 0, .int .i64 0, .int .i64 0]) ?_ 0 _ rfl; (with_reducible repeat (first | refine blk_drewN ?_ _ | refine blk_drew ?_ | refine blk_alloc ?_ _)); exact BK155.out) Try.underlying29 rfl zq3) rfl ?_
 exact ⟨by first | rfl | (simp [errW_none, errW_some] <;> rfl) | (simp only [← hji3, ← hji4, ← hji5, ← hji6]; first | rfl | (simp [errW_none, errW_some] <;> rfl)) | (simp [*, errW_none, errW_some] <;> rfl), zbz⟩

end Go.Proofs.Ythglkoddmpicdaa.Pr
end
