/- Part 6 of the proof of TopInside: what the functions compute. No condition. -/
import Derived.Test.YthglkoddmpicdaaTiTopInside3
import Derived.Test.YthglkoddmpicdaaTiTopInside5
import Derived.Test.YthglkoddmpicdaaTiTopInside4
set_option linter.unusedVariables false
set_option linter.unusedSimpArgs false
section
/- Which seas are valid: what the program answers. -/
namespace Go.Proofs.Ythglkoddmpicdaa.Gl
open Go.RowKit Go.Shelf Go.Proofs.YthglkoddmpicdaaW.PrintWords Go.Proofs.YthglkoddmpicdaaW.PrintLast Go.Proofs.YthglkoddmpicdaaW.PrintMore Go.Proofs.Ythglkoddmpicdaa.Pr Go.Proofs.YthglkoddmpicdaaW.Round
set_option linter.unusedVariables false
set_option linter.unusedSimpArgs false
attribute [local go_sem] max2_int min2_int max_two min_two max_four
def btwB (x lo hi : Int) : Bool := decide (lo ≤ x) && decide (x ≤ hi)
theorem btwB_iff {x lo hi : Int} : btwB x lo hi = true ↔ lo ≤ x ∧ x ≤ hi := by unfold btwB; simp
theorem btw_any (x lo hi : Int) (w : World) : Calls Try.prog 63 #[.int .i64 x, .int .i64 lo, .int .i64 hi] w (RetB (.bool (btwB x lo hi)) w) :=
 (glider_between.calls x lo hi (btwB x lo hi) w (by
  unfold glider_between.f btwB
  by_cases h : x ≥ lo
  ·rw [if_pos h, show decide (lo ≤ x) = true from decide_eq_true h]; simp
  ·rw [if_neg h, show decide (lo ≤ x) = false from decide_eq_false h]; simp)).mono fun _ _ h => ⟨h.1, h.2.below⟩
/-- Is a span valid? -/
def okS (lo hi : Int) : Bool := !(decide (lo > hi) || decide (lo < -1073741824) || decide (hi > 1073741824))
theorem okS_iff {lo hi : Int} : okS lo hi = true ↔ lo ≤ hi ∧ -1073741824 ≤ lo ∧ hi ≤ 1073741824 := by
 unfold okS
 simp only [Bool.not_eq_true', Bool.or_eq_false_iff, decide_eq_false_iff_not]
 omega
theorem check_span (k : Nat) (lo hi : Int) : bound_Check.f (k + 2) lo hi = some (if okS lo hi then 0 else 2) := by
 unfold bound_Check.f bound_check.f okS
 simp only [bound_check.l0, rd_T27]
 by_cases h1 : hi < lo
 ·simp [h1]
  try omega
 ·by_cases h2 : lo < -1073741824
  ·simp [h1, h2]
   try omega
  ·by_cases h3 : 1073741824 < hi
   ·simp [h1, h2, h3]
   ·have h3' : hi ≤ 1073741824 := by omega
    have h2' : -1073741824 ≤ lo := by omega
    have h1' : lo ≤ hi := by omega
    simp [h1, h2, h3, wrap64, h3', h2', h1']
def bndB (lo hi a b : Int) : Bool := okS lo hi && decide (a ≤ lo) && decide (hi ≤ b)
theorem bnd_some (k : Nat) (lo hi a b : Int) : glider_bounded.f (k + 2) lo hi a b = some (bndB lo hi a b) := by
 unfold glider_bounded.f bndB
 rw [check_span, Option.bind_some]
 cases okS lo hi with
 | false => rfl
 | true =>
  by_cases h : lo ≥ a
  ·rw [if_pos rfl, if_pos rfl, if_pos h, show decide (a ≤ lo) = true from decide_eq_true h]; simp
  ·rw [if_pos rfl, if_pos rfl, if_neg h, show decide (a ≤ lo) = false from decide_eq_false h]; simp
theorem bnd_any (lo hi a b : Int) (w : World) : Calls Try.prog 109 #[.agg #[.int .i64 lo, .int .i64 hi], .int .i64 a, .int .i64 b] w (RetB (.bool (bndB lo hi a b)) w) := glider_bounded.calls 2 _ _ _ _ _ w (bnd_some 0 lo hi a b)
theorem findIdx_at {α : Type} {p : α → Bool} {l : List α} {k : Nat} {x : α} (hk : l[k]? = some x) (h0 : (l.take k).any p = false) (hx : p x = true) : l.findIdx? p = some k := by
 have hlt := (List.getElem?_eq_some_iff.1 hk).1
 rw [List.findIdx?_eq_some_iff_getElem]
 refine ⟨hlt, by rw [(List.getElem?_eq_some_iff.1 hk).2]; exact hx, fun j hj => ?_⟩
 have := List.any_eq_false.1 h0 l[j] (by rw [List.mem_take_iff_getElem]; exact ⟨j, by omega, rfl⟩)
 simpa using this
/-- The first one, or -1. -/
def idxI {α : Type} (p : α → Bool) (l : List α) : Int := match l.findIdx? p with | none => -1 | some i => i
theorem idxI_any {α : Type} (p : α → Bool) (l : List α) : (idxI p l < 0 ∧ l.any p = false) ∨ (0 ≤ idxI p l ∧ l.any p = true) := by
 unfold idxI
 cases h : l.findIdx? p with
 | none =>
  refine .inl ⟨by decide, ?_⟩
  rw [List.any_eq_false]
  intro x hx
  have := List.findIdx?_eq_none_iff.1 h x hx
  simp [this]
 | some i =>
  obtain ⟨h1, h2, _⟩ := List.findIdx?_eq_some_iff_getElem.1 h
  exact .inr ⟨by dsimp only; omega, List.any_eq_true.2 ⟨_, List.getElem_mem h1, h2⟩⟩
section
variable {P : Program} {Q : Exit → Act → World → Prop} {ops : Array Oper}
end

set_option maxRecDepth 100000 in
set_option maxHeartbeats 2000000 in
theorem idx33_any (gs : Nat) (lb : Array Value) (g : S33 → Bool) (A : Option Addr) (c : Nat) (l : List S33) (w : World) (hC : Kd.C k33 w A l.length l) (hc : l.length ≤ c)
  (egs : ∀ args w, (callFunc gs args).run Try.prog w = .ok (.enter gs args) w)
  (hg : ∀ x W, Below w.heap.size w W → Calls Try.prog gs (#[.agg #[.int .i64 x.f0.f0, .int .i64 x.f0.f1, .int .i64 x.f1.f0, .int .i64 x.f1.f1]] ++ lb) W (RetB (.bool (g x)) W)) :
  Calls Try.prog 155 #[.slice A l.length c, .func (.func gs) #[] lb] w (RetB (.int .i64 (idxI g l)) w) := by
 have hu33 := Try.underlying33
 have hu27 := Try.underlying27
 have hb := hC.2.1
 have HI : Hid (idxI g l = match l.findIdx? g with | none => -1 | some i => (i : Int)) := Lib.hid rfl
 go_enter Try.func155, Try.ntmps155
 go_wp2
 go_loopw [8] (fun i wr => ∃ (k : Nat), k ≤ l.length ∧ i = .int .i64 k ∧ Hid ((l.take k).any g = false) ∧ Below w.heap.size w wr) (fun i _ => l.length - (intOf i).toNat)
 case atStart => exact ⟨0, Nat.zero_le _, rfl, Lib.hid (by simp), Below.refl _ _⟩
 case round =>
  obtain ⟨k, hk, rfl, HA, mB⟩ := hrel
  by_cases hlt : k < l.length
  ·obtain ⟨ad, rfl, hx0, hx1, hx2, hx3⟩ := at_T33 hC k (by omega) (by omega)
   simp only [Int.toNat_natCast] at hx0 hx1 hx2 hx3
   replace hx0 := (mB.cell (World.block_lt_of_cell? w _ hx0)).trans hx0
   replace hx1 := (mB.cell (World.block_lt_of_cell? w _ hx1)).trans hx1
   replace hx2 := (mB.cell (World.block_lt_of_cell? w _ hx2)).trans hx2
   replace hx3 := (mB.cell (World.block_lt_of_cell? w _ hx3)).trans hx3
   have hlk : l[k]? = some (rd_T33 l (k : Int)) := by simp [rd_T33, List.getD_eq_getElem?_getD, hlt]
   have htk : l.take (k + 1) = l.take k ++ [rd_T33 l (k : Int)] := by rw [List.take_add_one, hlk]; rfl
   generalize rd_T33 l (k : Int) = x at *
   have HT := Lib.hid htk
   have HK := Lib.hid hlk
   clear htk hlk
   go_wp2_with fail
   have hcon := hg x wr mB
   (with_reducible refine hcon.mono ?_)
   clear hcon hx0 hx1 hx2 hx3
   rintro e W1 ⟨rfl, hb1⟩
   replace mB := below_step mB hb1
   clear hb1
   cases hbx : g x with
   | true =>
    have HE := Lib.hid (HI.out.trans (by rw [findIdx_at HK.out HA.out hbx]))
    clear hbx
    go_wp2
    go_ret
    exact ⟨zq16, mB⟩
   | false =>
    have HB := Lib.hid hbx
    clear hbx
    go_wp2
    go_roundw
    case rel => exact ⟨k + 1, by omega, by simp, Lib.hid zq17, mB⟩
    case measure => simp [intOf]; omega
  ·obtain rfl : k = l.length := by omega
   rw [List.take_length] at HA
   have hn : l.findIdx? g = none := by
    rw [List.findIdx?_eq_none_iff]
    intro x hx
    have := List.any_eq_false.1 HA.out x hx
    simpa using this
   have HE := Lib.hid (HI.out.trans (by rw [hn]))
   clear hn
   go_wp2
   go_ret
   exact ⟨zq16, mB⟩
set_option maxHeartbeats 1000000 in
theorem cont33_any (gs : Nat) (lb : Array Value) (g : S33 → Bool) (A : Option Addr) (c : Nat) (l : List S33) (w : World) (hC : Kd.C k33 w A l.length l) (hc : l.length ≤ c)
  (egs : ∀ args w, (callFunc gs args).run Try.prog w = .ok (.enter gs args) w)
  (hg : ∀ x W, Below w.heap.size w W → Calls Try.prog gs (#[.agg #[.int .i64 x.f0.f0, .int .i64 x.f0.f1, .int .i64 x.f1.f0, .int .i64 x.f1.f1]] ++ lb) W (RetB (.bool (g x)) W)) :
  Calls Try.prog 111 #[.slice A l.length c, .func (.func gs) #[] lb] w (RetB (.bool (l.any g)) w) := by
 have hcon := idx33_any gs lb g A c l w hC hc egs hg
 clear hg egs
 go_enter Try.func111, Try.ntmps111
 go_wp2_with fail
 (with_reducible refine hcon.mono ?_)
 clear hcon
 rintro e W1 ⟨rfl, mB⟩
 rcases idxI_any g l with ⟨h1, h2⟩ | ⟨h1, h2⟩
 ·have HA := Lib.hid h2
  have hd : decide (0 ≤ idxI g l) = false := decide_eq_false (by omega)
  clear h1 h2
  go_wp2
  go_ret
  exact ⟨by rw [HA.out]; rfl, mB⟩
 ·have HA := Lib.hid h2
  have hd : decide (0 ≤ idxI g l) = true := decide_eq_true (by omega)
  clear h1 h2
  go_wp2
  go_ret
  exact ⟨by rw [HA.out]; rfl, mB⟩

set_option maxRecDepth 100000 in
set_option maxHeartbeats 2000000 in
theorem idx29_any (gs : Nat) (lb : Array Value) (g : S29 → Bool) (A : Option Addr) (c : Nat) (l : List S29) (w : World) (hC : Kd.C k29 w A l.length l) (hc : l.length ≤ c)
  (egs : ∀ args w, (callFunc gs args).run Try.prog w = .ok (.enter gs args) w)
  (hg : ∀ x W, Below w.heap.size w W → Calls Try.prog gs (#[.agg #[.int .i64 x.f0.f0, .int .i64 x.f0.f1, .int .i64 x.f1.f0, .int .i64 x.f1.f1]] ++ lb) W (RetB (.bool (g x)) W)) :
  Calls Try.prog 159 #[.slice A l.length c, .func (.func gs) #[] lb] w (RetB (.int .i64 (idxI g l)) w) := by
 have hu29 := Try.underlying29
 have hu27 := Try.underlying27
 have hb := hC.2.1
 have HI : Hid (idxI g l = match l.findIdx? g with | none => -1 | some i => (i : Int)) := Lib.hid rfl
 go_enter Try.func159, Try.ntmps159
 go_wp2
 go_loopw [8] (fun i wr => ∃ (k : Nat), k ≤ l.length ∧ i = .int .i64 k ∧ Hid ((l.take k).any g = false) ∧ Below w.heap.size w wr) (fun i _ => l.length - (intOf i).toNat)
 case atStart => exact ⟨0, Nat.zero_le _, rfl, Lib.hid (by simp), Below.refl _ _⟩
 case round =>
  obtain ⟨k, hk, rfl, HA, mB⟩ := hrel
  by_cases hlt : k < l.length
  ·obtain ⟨ad, rfl, hx0, hx1, hx2, hx3⟩ := at_T29 hC k (by omega) (by omega)
   simp only [Int.toNat_natCast] at hx0 hx1 hx2 hx3
   replace hx0 := (mB.cell (World.block_lt_of_cell? w _ hx0)).trans hx0
   replace hx1 := (mB.cell (World.block_lt_of_cell? w _ hx1)).trans hx1
   replace hx2 := (mB.cell (World.block_lt_of_cell? w _ hx2)).trans hx2
   replace hx3 := (mB.cell (World.block_lt_of_cell? w _ hx3)).trans hx3
   have hlk : l[k]? = some (rd_T29 l (k : Int)) := by simp [rd_T29, List.getD_eq_getElem?_getD, hlt]
   have htk : l.take (k + 1) = l.take k ++ [rd_T29 l (k : Int)] := by rw [List.take_add_one, hlk]; rfl
   generalize rd_T29 l (k : Int) = x at *
   have HT := Lib.hid htk
   have HK := Lib.hid hlk
   clear htk hlk
   go_wp2_with fail
   have hcon := hg x wr mB
   (with_reducible refine hcon.mono ?_)
   clear hcon hx0 hx1 hx2 hx3
   rintro e W1 ⟨rfl, hb1⟩
   replace mB := below_step mB hb1
   clear hb1
   cases hbx : g x with
   | true =>
    have HE := Lib.hid (HI.out.trans (by rw [findIdx_at HK.out HA.out hbx]))
    clear hbx
    go_wp2
    go_ret
    exact ⟨zq16, mB⟩
   | false =>
    have HB := Lib.hid hbx
    clear hbx
    go_wp2
    go_roundw
    case rel => exact ⟨k + 1, by omega, by simp, Lib.hid zq17, mB⟩
    case measure => simp [intOf]; omega
  ·obtain rfl : k = l.length := by omega
   rw [List.take_length] at HA
   have hn : l.findIdx? g = none := by
    rw [List.findIdx?_eq_none_iff]
    intro x hx
    have := List.any_eq_false.1 HA.out x hx
    simpa using this
   have HE := Lib.hid (HI.out.trans (by rw [hn]))
   clear hn
   go_wp2
   go_ret
   exact ⟨zq16, mB⟩
set_option maxHeartbeats 1000000 in
theorem cont29_any (gs : Nat) (lb : Array Value) (g : S29 → Bool) (A : Option Addr) (c : Nat) (l : List S29) (w : World) (hC : Kd.C k29 w A l.length l) (hc : l.length ≤ c)
  (egs : ∀ args w, (callFunc gs args).run Try.prog w = .ok (.enter gs args) w)
  (hg : ∀ x W, Below w.heap.size w W → Calls Try.prog gs (#[.agg #[.int .i64 x.f0.f0, .int .i64 x.f0.f1, .int .i64 x.f1.f0, .int .i64 x.f1.f1]] ++ lb) W (RetB (.bool (g x)) W)) :
  Calls Try.prog 122 #[.slice A l.length c, .func (.func gs) #[] lb] w (RetB (.bool (l.any g)) w) := by
 have hcon := idx29_any gs lb g A c l w hC hc egs hg
 clear hg egs
 go_enter Try.func122, Try.ntmps122
 go_wp2_with fail
 (with_reducible refine hcon.mono ?_)
 clear hcon
 rintro e W1 ⟨rfl, mB⟩
 rcases idxI_any g l with ⟨h1, h2⟩ | ⟨h1, h2⟩
 ·have HA := Lib.hid h2
  have hd : decide (0 ≤ idxI g l) = false := decide_eq_false (by omega)
  clear h1 h2
  go_wp2
  go_ret
  exact ⟨by rw [HA.out]; rfl, mB⟩
 ·have HA := Lib.hid h2
  have hd : decide (0 ≤ idxI g l) = true := decide_eq_true (by omega)
  clear h1 h2
  go_wp2
  go_ret
  exact ⟨by rw [HA.out]; rfl, mB⟩

/-- Is a current not valid? -/
def badC (most : Int) (c : S33) : Bool := !bndB c.f0.f0 c.f0.f1 (-most) most || !bndB c.f1.f0 c.f1.f1 (-most) most
set_option maxRecDepth 100000 in
set_option maxHeartbeats 2000000 in
theorem cs1_any (g1 : Nat) (s : Sea) (A7 A8 : Option Addr) (c7 c8 : Nat) (c : S33) (w : World) (hm0 : 0 ≤ s.most) (hm1 : s.most ≤ 5000) (hB : Blk w g1 #[.int .i64 s.nx, .int .i64 s.ny, .int .i64 s.cell, .int .i64 s.slot, .int .i64 s.slots, .int .i64 s.layers, .int .i64 s.most, .slice A7 s.shores.length c7, .slice A8 s.currents.length c8] 25) :
  Calls Try.prog 112 #[.agg #[.int .i64 c.f0.f0, .int .i64 c.f0.f1, .int .i64 c.f1.f0, .int .i64 c.f1.f1], .pointer (some ⟨g1, 0, none⟩)] w (RetB (.bool (badC s.most c)) w) := by
 have hu33 := Try.underlying33
 have hu27 := Try.underlying27
 have HB : Hid (badC s.most c = (!bndB c.f0.f0 c.f0.f1 (-s.most) s.most || !bndB c.f1.f0 c.f1.f1 (-s.most) s.most)) := Lib.hid rfl
 have c6 : ∀ o_, (w.alloc o_).cell? ⟨g1, 6, none⟩ = some (.int .i64 s.most) := fun o_ => (blk_cell (blk_alloc hB o_) 6).trans rfl
 go_enter Try.func112, Try.ntmps112
 go_wp2_with fail
 clear c6
 have m1 := hB
 clear hB
 have hl_1 := blk_lt m1
 have m2 : Blk (w.alloc (.cells #[.int .i64 c.f0.f0, .int .i64 c.f0.f1, .int .i64 c.f1.f0, .int .i64 c.f1.f1] 33)) (w.heap.size) #[.int .i64 c.f0.f0, .int .i64 c.f0.f1, .int .i64 c.f1.f0, .int .i64 c.f1.f1] 33 := (by have h_ := blk_new w (.cells #[.int .i64 c.f0.f0, .int .i64 c.f0.f1, .int .i64 c.f1.f0, .int .i64 c.f1.f1] 33); first | exact h_ | (simp only [World.size_alloc] at h_; exact h_))
 replace m1 : Blk (w.alloc (.cells #[.int .i64 c.f0.f0, .int .i64 c.f0.f1, .int .i64 c.f1.f0, .int .i64 c.f1.f1] 33)) g1 #[.int .i64 s.nx, .int .i64 s.ny, .int .i64 s.cell, .int .i64 s.slot, .int .i64 s.slots, .int .i64 s.layers, .int .i64 s.most, .slice A7 s.shores.length c7, .slice A8 s.currents.length c8] 25 := (blk_alloc m1 _)
 have mB : Below w.heap.size w (w.alloc (.cells #[.int .i64 c.f0.f0, .int .i64 c.f0.f1, .int .i64 c.f1.f0, .int .i64 c.f1.f1] 33)) := (below_alloc (Below.refl w.heap.size w) _)
 have hsz_ : w.heap.size ≤ w.heap.size := Nat.le_refl _
 generalize hW_ : (w.alloc (.cells #[.int .i64 c.f0.f0, .int .i64 c.f0.f1, .int .i64 c.f1.f0, .int .i64 c.f1.f1] 33)) = W1 at m1 m2 mB ⊢
 clear hW_
 generalize hg2 : w.heap.size = g2 at m2 ⊢
 have hn_1_2 : g1 ≠ g2 := by omega
 have hn_2_1 : g2 ≠ g1 := hn_1_2.symm
 have hG2 : w.heap.size ≤ g2 := by omega
 clear hsz_ hl_1
 try clear hg2
 have hs_W1 : w.heap.size ≤ W1.heap.size := mB.size
 have hcon := bnd_any c.f0.f0 c.f0.f1 (-s.most) s.most W1
 (with_reducible refine hcon.mono ?_)
 clear hcon
 rintro e W2 ⟨rfl, hb⟩
 replace m1 := blk_below m1 hb
 replace m2 := blk_below m2 hb
 replace mB := below_step mB hb
 clear hb
 have hs_W2 : w.heap.size ≤ W2.heap.size := mB.size
 cases h0 : bndB c.f0.f0 c.f0.f1 (-s.most) s.most with
 | false =>
  have HR := Lib.hid (HB.out.trans (by rw [h0]; rfl : _ = true))
  clear h0 HB
  go_wp2
  go_ret
  exact ⟨by rw [HR.out]; rfl, mB⟩
 | true =>
  have H0 := Lib.hid h0
  clear h0
  obtain ⟨c2_0, c2_1, c2_2, c2_3⟩ := zcs4 m2
  have c6 := (blk_cell m1 6).trans rfl
  go_wp2_with fail
  clear c2_0 c2_1 c2_2 c2_3 c6
  have hcon := bnd_any c.f1.f0 c.f1.f1 (-s.most) s.most W2
  (with_reducible refine hcon.mono ?_)
  clear hcon
  rintro e W3 ⟨rfl, hb⟩
  replace m1 := blk_below m1 hb
  replace m2 := blk_below m2 hb
  replace mB := below_step mB hb
  clear hb
  have hs_W3 : w.heap.size ≤ W3.heap.size := mB.size
  cases h1 : bndB c.f1.f0 c.f1.f1 (-s.most) s.most with
  | false =>
   have HR := Lib.hid (HB.out.trans (by rw [H0.out, h1]; rfl : _ = true))
   clear h1 HB
   go_wp2
   go_ret
   exact ⟨by rw [HR.out]; rfl, mB⟩
  | true =>
   have HR := Lib.hid (HB.out.trans (by rw [H0.out, h1]; rfl : _ = false))
   clear h1 HB
   go_wp2
   go_ret
   exact ⟨by rw [HR.out]; rfl, mB⟩

/-- Is a sea valid? -/
def seaB (s : Sea) : Bool := btwB s.nx 1 12 && btwB s.ny 1 12 && btwB s.cell 100 65536 && btwB s.slot 1 1048576 && btwB s.slots 1 16 && btwB s.layers 1 3 && btwB s.most 0 5000 && decide ((s.shores.length : Int) = s.nx * s.ny) && decide ((s.currents.length : Int) = s.slots * s.layers * (s.nx * s.ny)) && !s.currents.any (badC s.most)
def seaE (s : Sea) : Int := if seaB s then 0 else 2
set_option maxRecDepth 100000 in
set_option maxHeartbeats 8000000 in
theorem sea_any (s : Sea) (A7 A8 : Option Addr) (c7 c8 : Nat) (w : World) (h7 : s.shores.length ≤ c7) (hC7 : Kd.C Kd.bool w A7 s.shores.length s.shores) (h8 : s.currents.length ≤ c8) (hC8 : Kd.C k33 w A8 s.currents.length s.currents) :
  Calls Try.prog 50 #[.agg #[.int .i64 s.nx, .int .i64 s.ny, .int .i64 s.cell, .int .i64 s.slot, .int .i64 s.slots, .int .i64 s.layers, .int .i64 s.most, .slice A7 s.shores.length c7, .slice A8 s.currents.length c8]] w (RetB (.int .i64 (seaE s)) w) := by
 have hu25 := Try.underlying25
 have hb7 := hC7.2.1
 have hb8 := hC8.2.1
 have HE : Hid (seaE s = if seaB s then 0 else 2) := Lib.hid rfl
 have HB : Hid (seaB s = (btwB s.nx 1 12 && btwB s.ny 1 12 && btwB s.cell 100 65536 && btwB s.slot 1 1048576 && btwB s.slots 1 16 && btwB s.layers 1 3 && btwB s.most 0 5000 && decide ((s.shores.length : Int) = s.nx * s.ny) && decide ((s.currents.length : Int) = s.slots * s.layers * (s.nx * s.ny)) && !s.currents.any (badC s.most))) := Lib.hid rfl
 go_enter Try.func50, Try.ntmps50
 go_wp2_with fail
 have m1 : Blk (w.alloc (.cells #[.int .i64 s.nx, .int .i64 s.ny, .int .i64 s.cell, .int .i64 s.slot, .int .i64 s.slots, .int .i64 s.layers, .int .i64 s.most, .slice A7 s.shores.length c7, .slice A8 s.currents.length c8] 25)) (w.heap.size) #[.int .i64 s.nx, .int .i64 s.ny, .int .i64 s.cell, .int .i64 s.slot, .int .i64 s.slots, .int .i64 s.layers, .int .i64 s.most, .slice A7 s.shores.length c7, .slice A8 s.currents.length c8] 25 := (by have h_ := blk_new w (.cells #[.int .i64 s.nx, .int .i64 s.ny, .int .i64 s.cell, .int .i64 s.slot, .int .i64 s.slots, .int .i64 s.layers, .int .i64 s.most, .slice A7 s.shores.length c7, .slice A8 s.currents.length c8] 25); first | exact h_ | (simp only [World.size_alloc] at h_; exact h_))
 have mB : Below w.heap.size w (w.alloc (.cells #[.int .i64 s.nx, .int .i64 s.ny, .int .i64 s.cell, .int .i64 s.slot, .int .i64 s.slots, .int .i64 s.layers, .int .i64 s.most, .slice A7 s.shores.length c7, .slice A8 s.currents.length c8] 25)) := (below_alloc (Below.refl w.heap.size w) _)
 have hsz_ : w.heap.size ≤ w.heap.size := Nat.le_refl _
 generalize hW_ : (w.alloc (.cells #[.int .i64 s.nx, .int .i64 s.ny, .int .i64 s.cell, .int .i64 s.slot, .int .i64 s.slots, .int .i64 s.layers, .int .i64 s.most, .slice A7 s.shores.length c7, .slice A8 s.currents.length c8] 25)) = W0 at m1 mB ⊢
 clear hW_
 generalize hg1 : w.heap.size = g1 at m1 ⊢
 have hG1 : w.heap.size ≤ g1 := by omega
 clear hsz_
 try clear hg1
 have hs_W0 : w.heap.size ≤ W0.heap.size := mB.size
 have hcon := btw_any s.nx 1 12 W0
 (with_reducible refine hcon.mono ?_)
 clear hcon
 rintro e W1 ⟨rfl, hb⟩
 replace m1 := blk_below m1 hb
 replace mB := below_step mB hb
 clear hb
 have hs_W1 : w.heap.size ≤ W1.heap.size := mB.size
 cases h_ : btwB s.nx 1 12 with
 | false =>
  have HZ : Hid (seaE s = 2) := Lib.hid (by rw [HE.out, HB.out, h_]; simp)
  clear h_ HE HB
  go_wp2
  go_ret
  exact ⟨zq18, mB⟩
 | true =>
  have b0 := btwB_iff.1 h_
  have H0 := Lib.hid h_
  clear h_
  obtain ⟨c1_0, c1_1, c1_2, c1_3, c1_4, c1_5, c1_6, c1_7, c1_8⟩ := zcs9 m1
  go_wp2_with fail
  clear c1_0 c1_1 c1_2 c1_3 c1_4 c1_5 c1_6 c1_7 c1_8
  have hcon := btw_any s.ny 1 12 W1
  (with_reducible refine hcon.mono ?_)
  clear hcon
  rintro e W2 ⟨rfl, hb⟩
  replace m1 := blk_below m1 hb
  replace mB := below_step mB hb
  clear hb
  have hs_W2 : w.heap.size ≤ W2.heap.size := mB.size
  cases h_ : btwB s.ny 1 12 with
  | false =>
   have HZ : Hid (seaE s = 2) := Lib.hid (by rw [HE.out, HB.out, H0.out, h_]; simp)
   clear h_ HE HB
   go_wp2
   go_ret
   exact ⟨zq18, mB⟩
  | true =>
   have b1 := btwB_iff.1 h_
   have H1 := Lib.hid h_
   clear h_
   obtain ⟨c1_0, c1_1, c1_2, c1_3, c1_4, c1_5, c1_6, c1_7, c1_8⟩ := zcs9 m1
   go_wp2_with fail
   clear c1_0 c1_1 c1_2 c1_3 c1_4 c1_5 c1_6 c1_7 c1_8
   have hcon := btw_any s.cell 100 65536 W2
   (with_reducible refine hcon.mono ?_)
   clear hcon
   rintro e W3 ⟨rfl, hb⟩
   replace m1 := blk_below m1 hb
   replace mB := below_step mB hb
   clear hb
   have hs_W3 : w.heap.size ≤ W3.heap.size := mB.size
   cases h_ : btwB s.cell 100 65536 with
   | false =>
    have HZ : Hid (seaE s = 2) := Lib.hid (by rw [HE.out, HB.out, H0.out, H1.out, h_]; simp)
    clear h_ HE HB
    go_wp2
    go_ret
    exact ⟨zq18, mB⟩
   | true =>
    have b2 := btwB_iff.1 h_
    have H2 := Lib.hid h_
    clear h_
    obtain ⟨c1_0, c1_1, c1_2, c1_3, c1_4, c1_5, c1_6, c1_7, c1_8⟩ := zcs9 m1
    go_wp2_with fail
    clear c1_0 c1_1 c1_2 c1_3 c1_4 c1_5 c1_6 c1_7 c1_8
    have hcon := btw_any s.slot 1 1048576 W3
    (with_reducible refine hcon.mono ?_)
    clear hcon
    rintro e W4 ⟨rfl, hb⟩
    replace m1 := blk_below m1 hb
    replace mB := below_step mB hb
    clear hb
    have hs_W4 : w.heap.size ≤ W4.heap.size := mB.size
    cases h_ : btwB s.slot 1 1048576 with
    | false =>
     have HZ : Hid (seaE s = 2) := Lib.hid (by rw [HE.out, HB.out, H0.out, H1.out, H2.out, h_]; simp)
     clear h_ HE HB
     go_wp2
     go_ret
     exact ⟨zq18, mB⟩
    | true =>
     have b3 := btwB_iff.1 h_
     have H3 := Lib.hid h_
     clear h_
     obtain ⟨c1_0, c1_1, c1_2, c1_3, c1_4, c1_5, c1_6, c1_7, c1_8⟩ := zcs9 m1
     go_wp2_with fail
     clear c1_0 c1_1 c1_2 c1_3 c1_4 c1_5 c1_6 c1_7 c1_8
     have hcon := btw_any s.slots 1 16 W4
     (with_reducible refine hcon.mono ?_)
     clear hcon
     rintro e W5 ⟨rfl, hb⟩
     replace m1 := blk_below m1 hb
     replace mB := below_step mB hb
     clear hb
     have hs_W5 : w.heap.size ≤ W5.heap.size := mB.size
     cases h_ : btwB s.slots 1 16 with
     | false =>
      have HZ : Hid (seaE s = 2) := Lib.hid (by rw [HE.out, HB.out, H0.out, H1.out, H2.out, H3.out, h_]; simp)
      clear h_ HE HB
      go_wp2
      go_ret
      exact ⟨zq18, mB⟩
     | true =>
      have b4 := btwB_iff.1 h_
      have H4 := Lib.hid h_
      clear h_
      obtain ⟨c1_0, c1_1, c1_2, c1_3, c1_4, c1_5, c1_6, c1_7, c1_8⟩ := zcs9 m1
      go_wp2_with fail
      clear c1_0 c1_1 c1_2 c1_3 c1_4 c1_5 c1_6 c1_7 c1_8
      have hcon := btw_any s.layers 1 3 W5
      (with_reducible refine hcon.mono ?_)
      clear hcon
      rintro e W6 ⟨rfl, hb⟩
      replace m1 := blk_below m1 hb
      replace mB := below_step mB hb
      clear hb
      have hs_W6 : w.heap.size ≤ W6.heap.size := mB.size
      cases h_ : btwB s.layers 1 3 with
      | false =>
       have HZ : Hid (seaE s = 2) := Lib.hid (by rw [HE.out, HB.out, H0.out, H1.out, H2.out, H3.out, H4.out, h_]; simp)
       clear h_ HE HB
       go_wp2
       go_ret
       exact ⟨zq18, mB⟩
      | true =>
       have b5 := btwB_iff.1 h_
       have H5 := Lib.hid h_
       clear h_
       obtain ⟨c1_0, c1_1, c1_2, c1_3, c1_4, c1_5, c1_6, c1_7, c1_8⟩ := zcs9 m1
       go_wp2_with fail
       clear c1_0 c1_1 c1_2 c1_3 c1_4 c1_5 c1_6 c1_7 c1_8
       have hcon := btw_any s.most 0 5000 W6
       (with_reducible refine hcon.mono ?_)
       clear hcon
       rintro e W7 ⟨rfl, hb⟩
       replace m1 := blk_below m1 hb
       replace mB := below_step mB hb
       clear hb
       have hs_W7 : w.heap.size ≤ W7.heap.size := mB.size
       cases h_ : btwB s.most 0 5000 with
       | false =>
        have HZ : Hid (seaE s = 2) := Lib.hid (by rw [HE.out, HB.out, H0.out, H1.out, H2.out, H3.out, H4.out, H5.out, h_]; simp)
        clear h_ HE HB
        go_wp2
        go_ret
        exact ⟨zq18, mB⟩
       | true =>
        have b6 := btwB_iff.1 h_
        have H6 := Lib.hid h_
        clear h_
        have p1 := mul_in (show 0 ≤ s.nx by omega) b0.2 (show 0 ≤ s.ny by omega) b1.2
        have p2 := mul_in (show 0 ≤ s.slots by omega) b4.2 (show 0 ≤ s.layers by omega) b5.2
        have p3 := mul_in p2.1 p2.2 p1.1 p1.2
        have e1 : wrap64 (s.nx * s.ny) = s.nx * s.ny := by unfold wrap64; omega
        have HN := Lib.hid e1
        try rw [e1]
        clear e1
        by_cases q7 : (s.shores.length : Int) = s.nx * s.ny
        case neg =>
         have h_ : decide ((s.shores.length : Int) = s.nx * s.ny) = false := decide_eq_false q7
         have e_ : ((s.shores.length : Int) == s.nx * s.ny) = false := beq_eq_false_iff_ne.2 q7
         have e2_ : ((s.shores.length : Int) != s.nx * s.ny) = true := by rw [bne, e_]; rfl
         clear q7
         obtain ⟨c1_0, c1_1, c1_2, c1_3, c1_4, c1_5, c1_6, c1_7, c1_8⟩ := zcs9 m1
         have HZ : Hid (seaE s = 2) := Lib.hid (by rw [HE.out, HB.out, H0.out, H1.out, H2.out, H3.out, H4.out, H5.out, H6.out, h_]; simp)
         clear h_ HE HB
         go_wp2
         go_ret
         exact ⟨zq18, mB⟩
        case pos =>
         have h_ : decide ((s.shores.length : Int) = s.nx * s.ny) = true := decide_eq_true q7
         have H7 := Lib.hid h_
         have f7 : ((s.shores.length : Int) == s.nx * s.ny) = true := beq_iff_eq.2 q7
         have g7 : ((s.shores.length : Int) != s.nx * s.ny) = false := by rw [bne, f7]; rfl
         clear h_ q7
         by_cases q8 : (s.currents.length : Int) = s.slots * s.layers * (s.nx * s.ny)
         case neg =>
          have h_ : decide ((s.currents.length : Int) = s.slots * s.layers * (s.nx * s.ny)) = false := decide_eq_false q8
          have e_ : ((s.currents.length : Int) == s.slots * s.layers * (s.nx * s.ny)) = false := beq_eq_false_iff_ne.2 q8
          have e2_ : ((s.currents.length : Int) != s.slots * s.layers * (s.nx * s.ny)) = true := by rw [bne, e_]; rfl
          clear q8
          obtain ⟨c1_0, c1_1, c1_2, c1_3, c1_4, c1_5, c1_6, c1_7, c1_8⟩ := zcs9 m1
          have HZ : Hid (seaE s = 2) := Lib.hid (by rw [HE.out, HB.out, H0.out, H1.out, H2.out, H3.out, H4.out, H5.out, H6.out, H7.out, h_]; simp)
          clear h_ HE HB
          go_wp2
          go_ret
          exact ⟨zq18, mB⟩
         case pos =>
          have h_ : decide ((s.currents.length : Int) = s.slots * s.layers * (s.nx * s.ny)) = true := decide_eq_true q8
          have H8 := Lib.hid h_
          have f8 : ((s.currents.length : Int) == s.slots * s.layers * (s.nx * s.ny)) = true := beq_iff_eq.2 q8
          have g8 : ((s.currents.length : Int) != s.slots * s.layers * (s.nx * s.ny)) = false := by rw [bne, f8]; rfl
          clear h_ q8
          obtain ⟨c1_0, c1_1, c1_2, c1_3, c1_4, c1_5, c1_6, c1_7, c1_8⟩ := zcs9 m1
          go_wp2_with fail
          clear c1_0 c1_1 c1_2 c1_3 c1_4 c1_5 c1_6 c1_7 c1_8
          have hcon := cont33_any 112 #[.pointer (some ⟨g1, 0, none⟩)] (badC s.most) A8 c8 s.currents W7 (Kd.C_below hC8 mB) h8 (enters_of Try.func112 zq2 rfl) (fun x W hW => cs1_any g1 s A7 A8 c7 c8 x W b6.1 b6.2 (blk_below m1 hW))
          (with_reducible refine hcon.mono ?_)
          clear hcon
          rintro e W8 ⟨rfl, hb⟩
          replace m1 := blk_below m1 hb
          replace mB := below_step mB hb
          clear hb
          have hs_W8 : w.heap.size ≤ W8.heap.size := mB.size
          cases h_ : s.currents.any (badC s.most) with
          | true =>
           have HZ : Hid (seaE s = 2) := Lib.hid (by rw [HE.out, HB.out, H0.out, H1.out, H2.out, H3.out, H4.out, H5.out, H6.out, H7.out, H8.out, h_]; simp)
           clear h_ HE HB
           go_wp2
           go_ret
           exact ⟨zq18, mB⟩
          | false =>
           have HZ : Hid (seaE s = 0) := Lib.hid (by rw [HE.out, HB.out, H0.out, H1.out, H2.out, H3.out, H4.out, H5.out, H6.out, H7.out, H8.out, h_]; simp)
           clear h_ HE HB
           go_wp2
           go_ret
           exact ⟨zq18, mB⟩
end Go.Proofs.Ythglkoddmpicdaa.Gl
end
section
/- A span that is moved for a dive. -/
namespace Go.Proofs.Ythglkoddmpicdaa.Gl
open Go.RowKit Go.Shelf Go.Proofs.YthglkoddmpicdaaW.PrintWords Go.Proofs.YthglkoddmpicdaaW.PrintLast Go.Proofs.YthglkoddmpicdaaW.PrintMore Go.Proofs.Ythglkoddmpicdaa.Pr Go.Proofs.YthglkoddmpicdaaW.Round
set_option linter.unusedVariables false
set_option linter.unusedSimpArgs false
attribute [local go_sem] max2_int min2_int max_two min_two max_four
def upM (x : Int) : Int := -((-x) / 1000000)
end Go.Proofs.Ythglkoddmpicdaa.Gl
end
section
/- The cells that a box touches, one after another. -/
namespace Go.Proofs.Ythglkoddmpicdaa.Gl
open Go.RowKit Go.Shelf Go.Proofs.YthglkoddmpicdaaW.PrintWords Go.Proofs.YthglkoddmpicdaaW.PrintLast Go.Proofs.YthglkoddmpicdaaW.PrintMore Go.Proofs.Ythglkoddmpicdaa.Pr Go.Proofs.YthglkoddmpicdaaW.Round
set_option linter.unusedVariables false
set_option linter.unusedSimpArgs false
attribute [local go_sem] max2_int min2_int max_two min_two max_four
attribute [local go_sem] Oper.semAt_some
end Go.Proofs.Ythglkoddmpicdaa.Gl
end
section
/- Does a box touch a shore? -/
namespace Go.Proofs.Ythglkoddmpicdaa.Gl
open Go.RowKit Go.Shelf Go.Proofs.YthglkoddmpicdaaW.PrintWords Go.Proofs.YthglkoddmpicdaaW.PrintLast Go.Proofs.YthglkoddmpicdaaW.PrintMore Go.Proofs.Ythglkoddmpicdaa.Pr Go.Proofs.YthglkoddmpicdaaW.Round
set_option linter.unusedVariables false
set_option linter.unusedSimpArgs false
attribute [local go_sem] max2_int min2_int max_two min_two max_four
attribute [local go_sem] Oper.semAt_some
end Go.Proofs.Ythglkoddmpicdaa.Gl
end
section
namespace Go.Proofs.Ythglkoddmpicdaa.Pr
open Go.RowKit Go.Proofs.YthglkoddmpicdaaW.PrintWords Go.Proofs.YthglkoddmpicdaaW.PrintLast Go.Proofs.YthglkoddmpicdaaW.PrintMore
attribute [local go_sem] max2_int min2_int max_two min_two max_four
set_option linter.unusedVariables false
set_option linter.unusedSimpArgs false

/-! ### glider_hull: function 114 -/
end Go.Proofs.Ythglkoddmpicdaa.Pr
end
section
/- The current at a box. -/
namespace Go.Proofs.Ythglkoddmpicdaa.Gl
open Go.RowKit Go.Shelf Go.Proofs.YthglkoddmpicdaaW.PrintWords Go.Proofs.YthglkoddmpicdaaW.PrintLast Go.Proofs.YthglkoddmpicdaaW.PrintMore Go.Proofs.Ythglkoddmpicdaa.Pr Go.Proofs.YthglkoddmpicdaaW.Round
set_option linter.unusedVariables false
set_option linter.unusedSimpArgs false
attribute [local go_sem] max2_int min2_int max_two min_two max_four
attribute [local go_sem] Oper.semAt_some
theorem mn_min' (a b : Int) : mn a b = min a b := by unfold mn; split <;> omega
theorem mx_max' (a b : Int) : mx a b = max a b := by unfold mx; split <;> omega
end Go.Proofs.Ythglkoddmpicdaa.Gl
end
section
/- The current at a box is bounded. -/
namespace Go.Proofs.Ythglkoddmpicdaa.Gl
open Go.RowKit Go.Shelf Go.Proofs.YthglkoddmpicdaaW.PrintWords Go.Proofs.YthglkoddmpicdaaW.PrintLast Go.Proofs.YthglkoddmpicdaaW.PrintMore Go.Proofs.Ythglkoddmpicdaa.Pr Go.Proofs.YthglkoddmpicdaaW.Round
set_option linter.unusedVariables false
set_option linter.unusedSimpArgs false
attribute [local go_sem] max2_int min2_int max_two min_two max_four
end Go.Proofs.Ythglkoddmpicdaa.Gl
end
section
/- The reach of a dive. -/
namespace Go.Proofs.Ythglkoddmpicdaa.Gl
open Go.RowKit Go.Shelf Go.Proofs.YthglkoddmpicdaaW.PrintWords Go.Proofs.YthglkoddmpicdaaW.PrintLast Go.Proofs.YthglkoddmpicdaaW.PrintMore Go.Proofs.Ythglkoddmpicdaa.Pr Go.Proofs.YthglkoddmpicdaaW.Round
set_option linter.unusedVariables false
set_option linter.unusedSimpArgs false
attribute [local go_sem] max2_int min2_int max_two min_two max_four
end Go.Proofs.Ythglkoddmpicdaa.Gl
end
section
/- The box in which a dive ends. -/
namespace Go.Proofs.Ythglkoddmpicdaa.Gl
open Go.RowKit Go.Shelf Go.Proofs.YthglkoddmpicdaaW.PrintWords Go.Proofs.YthglkoddmpicdaaW.PrintLast Go.Proofs.YthglkoddmpicdaaW.PrintMore Go.Proofs.Ythglkoddmpicdaa.Pr Go.Proofs.YthglkoddmpicdaaW.Round
set_option linter.unusedVariables false
set_option linter.unusedSimpArgs false
attribute [local go_sem] max2_int min2_int max_two min_two max_four
end Go.Proofs.Ythglkoddmpicdaa.Gl
end
section
/- A dive. -/
namespace Go.Proofs.Ythglkoddmpicdaa.Gl
open Go.RowKit Go.Shelf Go.Proofs.YthglkoddmpicdaaW.PrintWords Go.Proofs.YthglkoddmpicdaaW.PrintLast Go.Proofs.YthglkoddmpicdaaW.PrintMore Go.Proofs.Ythglkoddmpicdaa.Pr Go.Proofs.YthglkoddmpicdaaW.Round
set_option linter.unusedVariables false
set_option linter.unusedSimpArgs false
attribute [local go_sem] max2_int min2_int max_two min_two max_four
end Go.Proofs.Ythglkoddmpicdaa.Gl
end
section
namespace Go.Proofs.Ythglkoddmpicdaa.Pr
open Go.RowKit Go.Proofs.YthglkoddmpicdaaW.PrintWords Go.Proofs.YthglkoddmpicdaaW.PrintLast Go.Proofs.YthglkoddmpicdaaW.PrintMore
attribute [local go_sem] max2_int min2_int max_two min_two max_four
set_option linter.unusedVariables false
set_option linter.unusedSimpArgs false

/-! ### glider_checkPlace: function 132 -/
end Go.Proofs.Ythglkoddmpicdaa.Pr
end
section
namespace Go.Proofs.Ythglkoddmpicdaa.Pr
open Go.RowKit Go.Proofs.YthglkoddmpicdaaW.PrintWords Go.Proofs.YthglkoddmpicdaaW.PrintLast Go.Proofs.YthglkoddmpicdaaW.PrintMore
attribute [local go_sem] max2_int min2_int max_two min_two max_four
set_option linter.unusedVariables false
set_option linter.unusedSimpArgs false

/-! ### glider_checkCourses: function 82 -/
end Go.Proofs.Ythglkoddmpicdaa.Pr
end
section
/- A trip, as the program makes it, or the error. -/
namespace Go.Proofs.Ythglkoddmpicdaa.Gl
open Go.RowKit Go.Shelf Go.Proofs.YthglkoddmpicdaaW.PrintWords Go.Proofs.YthglkoddmpicdaaW.PrintLast Go.Proofs.YthglkoddmpicdaaW.PrintMore Go.Proofs.Ythglkoddmpicdaa.Pr Go.Proofs.YthglkoddmpicdaaW.Round
set_option linter.unusedVariables false
set_option linter.unusedSimpArgs false
attribute [local go_sem] max2_int min2_int max_two min_two max_four
theorem wrap_id' {n : Int} (h0 : -9223372036854775808 ≤ n) (h1 : n ≤ 9223372036854775807) : wrap64 n = n := by unfold wrap64; omega
/-- Is a vehicle valid? -/
def vehB (v : Veh) : Bool := btwB v.speed 0 5000 && btwB v.dive 1 131072 && bndB v.use.f0 v.use.f1 0 1073741824 && bndB v.drift.f0 v.drift.f1 0 1073741824 && btwB v.reserve 0 1073741824
def vehE (v : Veh) : Int := if vehB v then 0 else 2
theorem btw_some (x lo hi : Int) : glider_between.f x lo hi = some (btwB x lo hi) := by
 unfold glider_between.f btwB
 by_cases h : x ≥ lo
 ·rw [if_pos h, show decide (lo ≤ x) = true from decide_eq_true h]; simp
 ·rw [if_neg h, show decide (lo ≤ x) = false from decide_eq_false h]; simp
theorem veh_some (v : Veh) : glider_CheckVehicle.f 4 v.speed v.dive v.use.f0 v.use.f1 v.drift.f0 v.drift.f1 v.reserve = some (vehE v) := by
 unfold glider_CheckVehicle.f vehE vehB
 simp only [btw_some, bnd_some 2, Option.bind_some]
 cases btwB v.speed 0 5000 <;> cases btwB v.dive 1 131072 <;> cases bndB v.use.f0 v.use.f1 0 1073741824 <;> cases bndB v.drift.f0 v.drift.f1 0 1073741824 <;> cases btwB v.reserve 0 1073741824 <;> rfl
/-- Is a box valid? -/
def boxB (x : S29) : Bool := (okS x.f0.f0 x.f0.f1 && okS x.f1.f0 x.f1.f1) && (btwB x.f0.f0 (-268435456) 268435456 && btwB x.f0.f1 (-268435456) 268435456 && btwB x.f1.f0 (-268435456) 268435456 && btwB x.f1.f1 (-268435456) 268435456)
def boxE (x : S29) : Int := if boxB x then 0 else 2
theorem check_two (k : Nat) (a b : S27) : bound_check.f (k + 3) [a, b] = some (if okS a.f0 a.f1 && okS b.f0 b.f1 then 0 else 2) := by
 unfold bound_check.f
 have e1 : (([a, b] : List S27).length : Int) = 2 := rfl
 have r0 : rd_T27 [a, b] 0 = a := rfl
 have r1 : rd_T27 [a, b] 1 = b := rfl
 have w1 : wrap64 (0 + 1) = 1 := wrap_id' (by decide) (by decide)
 have w2 : wrap64 (1 + 1) = 2 := wrap_id' (by decide) (by decide)
 have step : ∀ (c : S27) (r : Option Int), (if c.f0 > c.f1 then some 2 else if c.f0 < -1073741824 then some 2 else if c.f1 > 1073741824 then some 2 else r) = if okS c.f0 c.f1 then r else some 2 := by
  intro c r
  cases h : okS c.f0 c.f1 with
  | true =>
   have := okS_iff.1 h
   rw [if_neg (by omega), if_neg (by omega), if_neg (by omega), if_pos rfl]
  | false =>
   have hn : ¬ (c.f0 ≤ c.f1 ∧ -1073741824 ≤ c.f0 ∧ c.f1 ≤ 1073741824) := fun h2 => by rw [okS_iff.2 h2] at h; cases h
   rw [show (if false = true then r else some 2) = some 2 from rfl]
   by_cases h1 : c.f0 > c.f1
   ·rw [if_pos h1]
   ·rw [if_neg h1]
    by_cases h2 : c.f0 < -1073741824
    ·rw [if_pos h2]
    ·rw [if_neg h2, if_pos (by omega)]
 simp only [bound_check.l0, e1]
 rw [if_pos (by decide), if_pos (by decide), if_pos (by decide), r0, step]
 cases ha : okS a.f0 a.f1 with
 | false => rfl
 | true =>
  rw [if_pos rfl, w1, if_pos (by decide), if_pos (by decide), if_pos (by decide), r1, step]
  cases hb : okS b.f0 b.f1 with
  | false => rfl
  | true =>
   rw [if_pos rfl, w2, if_neg (by decide)]
   rfl
theorem box_some (x : S29) : bound_CheckBox.f 4 x.f0.f0 x.f0.f1 x.f1.f0 x.f1.f1 = some (boxE x) := by
 unfold bound_CheckBox.f boxE boxB
 rw [check_two 1, Option.bind_some]
 cases h : (okS x.f0.f0 x.f0.f1 && okS x.f1.f0 x.f1.f1) with
 | false => rfl
 | true =>
  rw [Bool.and_eq_true] at h
  have h1 := okS_iff.1 h.1
  have h2 := okS_iff.1 h.2
  have am : ∀ a : Int, -1073741824 ≤ a → a ≤ 1073741824 → bound_amount.f a = some (max a (-a)) := fun a h0 h1 => by
   unfold bound_amount.f
   rw [mx_max', wrap_id' (by omega) (by omega)]
  rw [show (if (true = true) then (0 : Int) else 2) = 0 from rfl, if_pos rfl]
  simp only [am _ h1.2.1 (by omega), am _ (show -1073741824 ≤ x.f0.f1 by omega) h1.2.2, am _ h2.2.1 (by omega), am _ (show -1073741824 ≤ x.f1.f1 by omega) h2.2.2, Option.bind_some, mx_max']
  by_cases hb : max (max (max (max x.f0.f0 (-x.f0.f0)) (max x.f0.f1 (-x.f0.f1))) (max x.f1.f0 (-x.f1.f0))) (max x.f1.f1 (-x.f1.f1)) > 268435456
  ·rw [if_pos hb, if_neg]
   rw [Bool.true_and, Bool.and_eq_true, Bool.and_eq_true, Bool.and_eq_true, btwB_iff, btwB_iff, btwB_iff, btwB_iff]
   omega
  ·rw [if_neg hb, if_pos]
   rw [Bool.true_and, Bool.and_eq_true, Bool.and_eq_true, Bool.and_eq_true, btwB_iff, btwB_iff, btwB_iff, btwB_iff]
   omega
theorem box_any (x : S29) (w : World) : Calls Try.prog 51 #[.agg #[.int .i64 x.f0.f0, .int .i64 x.f0.f1, .int .i64 x.f1.f0, .int .i64 x.f1.f1]] w (RetB (.int .i64 (boxE x)) w) := bound_CheckBox.calls 4 _ _ _ _ _ w (box_some x)
end Go.Proofs.Ythglkoddmpicdaa.Gl
end
section
namespace Go.Proofs.Ythglkoddmpicdaa.Pr
open Go.RowKit Go.Proofs.YthglkoddmpicdaaW.PrintWords Go.Proofs.YthglkoddmpicdaaW.PrintLast Go.Proofs.YthglkoddmpicdaaW.PrintMore
attribute [local go_sem] max2_int min2_int max_two min_two max_four
set_option linter.unusedVariables false
set_option linter.unusedSimpArgs false

/-! ### bound_meet: function 60 -/
def bound_meet.f (a0_0 : Int) (a0_1 : Int) (a1_0 : Int) (a1_1 : Int) : Option (Int × Int × Bool) := some (mx a0_0 a1_0, mn a0_1 a1_1, decide ((mx a0_0 a1_0) ≤ (mn a0_1 a1_1)))
def bound_meet.T2 : Bool × List (List Nat × List Nat) := (true, [([], []), ([], []), ([1], [1]), ([], []), ([3], [3]), ([2, 4], [2, 4]), ([0, 0], [0]), ([5, 6, 0, 1, 2, 3, 4, 5, 6], [5])])
def bound_meet.B2 : List Nat := [0, 0, 2, 0, 8, 30, 1, 127]
theorem bound_meet.tab2 : rtab .any (opsOf Try.f60 2) = bound_meet.T2 := by kernel_rfl
theorem bound_meet.bits2 : waitsOk bound_meet.T2.2 bound_meet.B2 = true := by kernel_rfl
set_option maxHeartbeats 8000000 in
set_option maxRecDepth 100000 in
theorem bound_meet.calls (a0_0 : Int) (a0_1 : Int) (a1_0 : Int) (a1_1 : Int) (r1 : Int) (r2 : Int) (r3 : Bool) (w : World) (h : bound_meet.f a0_0 a0_1 a1_0 a1_1 = some (r1, r2, r3)) :
  Calls Try.prog 60 #[.agg #[.int .i64 a0_0, .int .i64 a0_1], .agg #[.int .i64 a1_0, .int .i64 a1_1]] w fun e w' => e = .returned (.tuple #[.agg #[.int .i64 r1, .int .i64 r2], .bool r3]) ∧ Below w.heap.size w w' := by
 have hu27 := Try.underlying27
 have HB := Aside0.mk (Below.refl w.heap.size w)
 have H : (some (mx a0_0 a1_0, mn a0_1 a1_1, decide ((mx a0_0 a1_0) ≤ (mn a0_1 a1_1)))) = some (r1, r2, r3) := h
 clear h
 obtain ⟨ji3, hji3⟩ : ∃ j_ : Int, (mx a0_0 a1_0) = j_ := ⟨_, rfl⟩
 replace H : (some (ji3, mn a0_1 a1_1, decide ((ji3) ≤ (mn a0_1 a1_1)))) = some (r1, r2, r3) := by first | (rw [hji3] at H; exact H) | (simp only [hji3] at H ⊢; exact H)
 have hji3_ : (if a0_0 < a1_0 then a1_0 else a0_0) = ji3 := hji3
 obtain ⟨ji4, hji4⟩ : ∃ j_ : Int, (mn a0_1 a1_1) = j_ := ⟨_, rfl⟩
 replace H : (some (ji3, ji4, decide ((ji3) ≤ (ji4)))) = some (r1, r2, r3) := by first | (rw [hji4] at H; exact H) | (simp only [hji4] at H ⊢; exact H)
 have hji4_ : (if a1_1 < a0_1 then a1_1 else a0_1) = ji4 := hji4
 simp only [Option.some.injEq, Prod.mk.injEq] at H
 obtain ⟨rfl, rfl, rfl⟩ := H
 go_enter Try.func60, Try.ntmps60
 try go_wp2_with (first | ((with_reducible refine gate_dst (N := 2) rfl ?_); refine box_event (by rfl) (N := 2) (by rfl) (cs := #[.int .i64 a0_0, .int .i64 a0_1]) (t := 27) zq0 ?_; intro gb214 hg w5 hbox hb; have BK214 := Aside0.mk (hbox); have GW214 := zgs HB hg; have GE214 := zgs HB hg; replace HB := zbs HB hb; clear hb hbox hg) | ((with_reducible refine gate_dst (N := 3) rfl ?_); refine box_event (by rfl) (N := 3) (by rfl) (cs := #[.int .i64 a1_0, .int .i64 a1_1]) (t := 27) zq0 ?_; intro gb215 hg w6 hbox hb; have BK215 := Aside0.mk (hbox); have GW215 := zgs HB hg; have GE215 := zgs HB hg; have NB214_215 := znp BK214 hg; have NB215_214 := znq BK214 hg; replace BK214 := zbb BK214 hb; replace HB := zbs HB hb; clear hb hbox hg) | ((with_reducible refine gate_dst (N := 4) rfl ?_); refine box_event (by rfl) (N := 4) (by rfl) (cs := #[.int .i64 0, .int .i64 0]) (t := 27) zq0 ?_; intro gb216 hg w7 hbox hb; have BK216 := Aside0.mk (hbox); have GW216 := zgs HB hg; have GE216 := zgs HB hg; have NB214_216 := znp BK214 hg; have NB216_214 := znq BK214 hg; have NB215_216 := znp BK215 hg; have NB216_215 := znq BK215 hg; replace BK214 := zbb BK214 hb; replace BK215 := zbb BK215 hb; replace HB := zbs HB hb; clear hb hbox hg; have hnb8 := NB214_215.out; have hnc8 := NB215_214.out; have hnb9 := NB214_216.out; have hnc9 := NB216_214.out; obtain ⟨hcz10_0, hcz10_1, hfz10_0, hfz10_1⟩ := zce2 BK214.out; have hnb11 := NB215_216.out; have hnc11 := NB216_215.out; obtain ⟨hcz12_0, hcz12_1, hfz12_0, hfz12_1⟩ := zce2 BK215.out) | ((with_reducible refine gate_dst (N := 6) rfl ?_); refine box_event (by rfl) (N := 6) (by rfl) (cs := #[.int .i64 0, .int .i64 0]) (t := 27) zq0 ?_; intro gb217 hg w13 hbox hb; have BK217 := Aside0.mk (hbox); have GW217 := zgs HB hg; have GE217 := zgs HB hg; have NB214_217 := znp BK214 hg; have NB217_214 := znq BK214 hg; have NB215_217 := znp BK215 hg; have NB217_215 := znq BK215 hg; have NB216_217 := znp BK216 hg; have NB217_216 := znq BK216 hg; replace BK214 := zbb BK214 hb; replace BK215 := zbb BK215 hb; replace BK216 := zbb BK216 hb; replace HB := zbs HB hb; clear hb hbox hg; have hnb14 := NB217_214.out; have hnc14 := NB214_217.out; have hnb15 := NB217_215.out; have hnc15 := NB215_217.out; have hnb16 := NB217_216.out; have hnc16 := NB216_217.out; obtain ⟨hcz17_0, hcz17_1, hfz17_0, hfz17_1⟩ := zce2 BK217.out))
 have n0_ : Aside0 (((w13.setCell ⟨gb217, 0, none⟩ (.int .i64 ji3)).setCell ⟨gb217, 1, none⟩ (.int .i64 ji4)).heap[gb214]? = some (.cells #[.int .i64 a0_0, .int .i64 a0_1] 27 (0, 0))) := ⟨zbf⟩
 have n1_ : Aside0 (((w13.setCell ⟨gb217, 0, none⟩ (.int .i64 ji3)).setCell ⟨gb217, 1, none⟩ (.int .i64 ji4)).heap[gb215]? = some (.cells #[.int .i64 a1_0, .int .i64 a1_1] 27 (0, 0))) := ⟨zbf⟩
 have n2_ : Aside0 (((w13.setCell ⟨gb217, 0, none⟩ (.int .i64 ji3)).setCell ⟨gb217, 1, none⟩ (.int .i64 ji4)).heap[gb216]? = some (.cells #[.int .i64 0, .int .i64 0] 27 (0, 0))) := ⟨zbf⟩
 have n3_ : Aside0 (((w13.setCell ⟨gb217, 0, none⟩ (.int .i64 ji3)).setCell ⟨gb217, 1, none⟩ (.int .i64 ji4)).heap[gb217]? = some (.cells #[.int .i64 ji3, .int .i64 ji4] 27 (0, 0))) := ⟨by (with_reducible repeat (first | refine blk_drewN ?_ _ | refine blk_drew ?_ | refine blk_alloc ?_ _)); refine blk_put (cs := #[.int .i64 ji3, .int .i64 0]) ?_ 1 _ rfl; (with_reducible repeat (first | refine blk_drewN ?_ _ | refine blk_drew ?_ | refine blk_alloc ?_ _)); refine blk_put (cs := #[.int .i64 0, .int .i64 0]) ?_ 0 _ rfl; (with_reducible repeat (first | refine blk_drewN ?_ _ | refine blk_drew ?_ | refine blk_alloc ?_ _)); exact BK217.out⟩
 have n4_ : Aside0 (Below w.heap.size w ((w13.setCell ⟨gb217, 0, none⟩ (.int .i64 ji3)).setCell ⟨gb217, 1, none⟩ (.int .i64 ji4))) := ⟨zbz⟩
 (try clear BK214)
 (try clear BK215)
 (try clear BK216)
 (try clear BK217)
 (try clear HB)
 generalize ((w13.setCell ⟨gb217, 0, none⟩ (.int .i64 ji3)).setCell ⟨gb217, 1, none⟩ (.int .i64 ji4)) = w18 at n0_ n1_ n2_ n3_ n4_ ⊢
 have BK214 := n0_
 have BK215 := n1_
 have BK216 := n2_
 have BK217 := n3_
 have HB := n4_
 clear n0_ n1_ n2_ n3_ n4_
 replace BK214 := Aside0.mk (blk_drew BK214.out)
 replace BK215 := Aside0.mk (blk_drew BK215.out)
 replace BK216 := Aside0.mk (blk_drew BK216.out)
 replace BK217 := Aside0.mk (blk_drew BK217.out)
 replace HB := Aside0.mk (below_drew1 HB.out)
 refine start_ (n := 8) (S := fun w' => w'.cell? ⟨gb217, 0, none⟩ = some (.int .i64 ji3) ∧ w'.cell? ⟨gb217, 1, none⟩ = some (.int .i64 ji4)) (ds := []) #[false, false, false, false, false, false, false, false] zq2 rfl rfl ⟨(blk_cell BK217.out 0).trans rfl, (blk_cell BK217.out 1).trans rfl⟩ (fun hHeld => ?_); refine with_tabW bound_meet.tab2 bound_meet.bits2 (fun HT_ HW_ => ?_)
 generalize w18.drew = w19 at BK214 BK215 BK216 BK217 HB hHeld ⊢
 refine zpz (i := 1) (N := some 19) (any_of HT_.out zq2) ?_
 refine zpz (i := 3) (N := some 21) (any_of HT_.out zq2) ?_
 refine ztz (i := 0) (N := some 18) (take_ofW HT_.out HW_.out zq2) hHeld ?_
 refine ztz (i := 2) (N := some 20) (take_ofW HT_.out HW_.out zq2) hHeld ?_
 refine ztz (i := 4) (N := some 22) (take_ofW HT_.out HW_.out zq2) hHeld ?_
 refine zpz (i := 5) (N := some 23) (any_of HT_.out zq2) ?_
 refine one_ (i := 6) (N := none) #[true, true, true, true, true, true, true, false] rfl rfl (one_of HT_.out zq2) (by decide) (fun K hK => ?_)
 have hs20 : w19.cell? ⟨gb216, 0, none⟩ = some (.int .i64 0) := (blk_cell BK216.out 0).trans rfl
 have hfs20 := blk_frozen BK216.out 0
 have hns20_0 := NB214_216.out
 have hns20_1 := NB215_216.out
 have hns20_3 := NB217_216.out
 have hms20_0 := NB216_214.out
 have hms20_1 := NB216_215.out
 have hms20_3 := NB216_217.out
 have hs21 : w19.cell? ⟨gb216, 1, none⟩ = some (.int .i64 0) := (blk_cell BK216.out 1).trans rfl
 have hfs21 := blk_frozen BK216.out 1
 have hns21_0 := NB214_216.out
 have hns21_1 := NB215_216.out
 have hns21_3 := NB217_216.out
 have hms21_0 := NB216_214.out
 have hms21_1 := NB216_215.out
 have hms21_3 := NB216_217.out
 refine skip_ (w1 := ?_) (by rfl) rfl ?_ ?_
 rotate_left
 ·go_simp
  rfl
 refine hK.out _ _ ⟨((cell_far (p := ⟨gb216, _, none⟩) NB217_216.out _).trans (((cell_far (p := ⟨gb216, _, none⟩) NB217_216.out _).trans (hHeld.1)))), ((cell_far (p := ⟨gb216, _, none⟩) NB217_216.out _).trans (((cell_far (p := ⟨gb216, _, none⟩) NB217_216.out _).trans (hHeld.2))))⟩ (fun hHeld => ?_)
 clear hK K
 refine zpz (i := 7) (N := some 5) (any_of HT_.out zq2) ?_
 refine done_ (done_of HT_.out zq2) ?_
 try go_wp2
 refine bodyPost_ret (results_ct rfl _ _ gb216 27 #[.int .i64 ji3, .int .i64 ji4] (0, 0) _ rfl (by (with_reducible repeat (first | refine blk_drewN ?_ _ | refine blk_drew ?_ | refine blk_alloc ?_ _)); refine blk_put (cs := #[.int .i64 ji3, .int .i64 0]) ?_ 1 _ rfl; (with_reducible repeat (first | refine blk_drewN ?_ _ | refine blk_drew ?_ | refine blk_alloc ?_ _)); refine blk_put (cs := #[.int .i64 0, .int .i64 0]) ?_ 0 _ rfl; (with_reducible repeat (first | refine blk_drewN ?_ _ | refine blk_drew ?_ | refine blk_alloc ?_ _)); exact BK216.out) Try.underlying27 rfl zq2) rfl ?_
 exact ⟨by first | rfl | (simp [errW_none, errW_some] <;> rfl) | (simp only [← hji3, ← hji4]; first | rfl | (simp [errW_none, errW_some] <;> rfl)) | (simp [*, errW_none, errW_some] <;> rfl), zbz⟩

end Go.Proofs.Ythglkoddmpicdaa.Pr
end
