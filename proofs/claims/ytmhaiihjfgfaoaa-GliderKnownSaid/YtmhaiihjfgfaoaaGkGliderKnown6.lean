/- Part 6 of the proof of GliderKnown: what the functions compute. No condition. -/
import Derived.Test.YtmhaiihjfgfaoaaGkGliderKnown3
import Derived.Test.YtmhaiihjfgfaoaaGkGliderKnown5
import Derived.Test.YtmhaiihjfgfaoaaGkGliderKnown4
set_option linter.unusedVariables false
set_option linter.unusedSimpArgs false
section
/- Which seas are valid: what the program answers. -/
namespace Go.Proofs.Ytmhaiihjfgfaoaa.Gl
open Go.RowKit Go.Shelf Go.Proofs.YtmhaiihjfgfaoaaW.PrintWords Go.Proofs.YtmhaiihjfgfaoaaW.PrintLast Go.Proofs.YtmhaiihjfgfaoaaW.PrintMore Go.Proofs.Ytmhaiihjfgfaoaa.Pr Go.Proofs.YtmhaiihjfgfaoaaW.Round
set_option linter.unusedVariables false
set_option linter.unusedSimpArgs false
attribute [local go_sem] max2_int min2_int max_two min_two max_four
def btwB (x lo hi : Int) : Bool := decide (lo ≤ x) && decide (x ≤ hi)
theorem btwB_iff {x lo hi : Int} : btwB x lo hi = true ↔ lo ≤ x ∧ x ≤ hi := by unfold btwB; simp
theorem btw_any (x lo hi : Int) (w : World) : Calls Try.prog 74 #[.int .i64 x, .int .i64 lo, .int .i64 hi] w (RetB (.bool (btwB x lo hi)) w) :=
 (glider_between.calls x lo hi (btwB x lo hi) w (by
  unfold glider_between.f btwB
  by_cases h : x ≥ lo
  ·rw [if_pos h, show decide (lo ≤ x) = true from decide_eq_true h]; simp
  ·rw [if_neg h, show decide (lo ≤ x) = false from decide_eq_false h]; simp)).mono fun _ _ h => ⟨h.1, h.2.below⟩
/-- Is a span valid? -/
def okS (lo hi : Int) : Bool := !(decide (lo > hi) || decide (lo < -1073741824) || decide (hi > 1073741824))
theorem okS_iff {lo hi : Int} : okS lo hi = true ↔ lo ≤ hi ∧ -1073741824 ≤ lo ∧ hi ≤ 1073741824 := by
 unfold okS
 simp only [Bool.not_eq_true', Bool.or_eq_false_iff, decide_eq_false_iff_not]
 omega
theorem check_span (k : Nat) (lo hi : Int) : bound_Check.f (k + 2) lo hi = some (if okS lo hi then 0 else 2) := by
 unfold bound_Check.f bound_check.f okS
 simp only [bound_check.l0, rd_T27]
 by_cases h1 : hi < lo
 ·simp [h1]
  try omega
 ·by_cases h2 : lo < -1073741824
  ·simp [h1, h2]
   try omega
  ·by_cases h3 : 1073741824 < hi
   ·simp [h1, h2, h3]
   ·have h3' : hi ≤ 1073741824 := by omega
    have h2' : -1073741824 ≤ lo := by omega
    have h1' : lo ≤ hi := by omega
    simp [h1, h2, h3, wrap64, h3', h2', h1']
def bndB (lo hi a b : Int) : Bool := okS lo hi && decide (a ≤ lo) && decide (hi ≤ b)
theorem bnd_some (k : Nat) (lo hi a b : Int) : glider_bounded.f (k + 2) lo hi a b = some (bndB lo hi a b) := by
 unfold glider_bounded.f bndB
 rw [check_span, Option.bind_some]
 cases okS lo hi with
 | false => rfl
 | true =>
  by_cases h : lo ≥ a
  ·rw [if_pos rfl, if_pos rfl, if_pos h, show decide (a ≤ lo) = true from decide_eq_true h]; simp
  ·rw [if_pos rfl, if_pos rfl, if_neg h, show decide (a ≤ lo) = false from decide_eq_false h]; simp
theorem bnd_any (lo hi a b : Int) (w : World) : Calls Try.prog 77 #[.agg #[.int .i64 lo, .int .i64 hi], .int .i64 a, .int .i64 b] w (RetB (.bool (bndB lo hi a b)) w) := glider_bounded.calls 2 _ _ _ _ _ w (bnd_some 0 lo hi a b)
theorem findIdx_at {α : Type} {p : α → Bool} {l : List α} {k : Nat} {x : α} (hk : l[k]? = some x) (h0 : (l.take k).any p = false) (hx : p x = true) : l.findIdx? p = some k := by
 have hlt := (List.getElem?_eq_some_iff.1 hk).1
 rw [List.findIdx?_eq_some_iff_getElem]
 refine ⟨hlt, by rw [(List.getElem?_eq_some_iff.1 hk).2]; exact hx, fun j hj => ?_⟩
 have := List.any_eq_false.1 h0 l[j] (by rw [List.mem_take_iff_getElem]; exact ⟨j, by omega, rfl⟩)
 simpa using this
/-- The first one, or -1. -/
def idxI {α : Type} (p : α → Bool) (l : List α) : Int := match l.findIdx? p with | none => -1 | some i => i
theorem idxI_any {α : Type} (p : α → Bool) (l : List α) : (idxI p l < 0 ∧ l.any p = false) ∨ (0 ≤ idxI p l ∧ l.any p = true) := by
 unfold idxI
 cases h : l.findIdx? p with
 | none =>
  refine .inl ⟨by decide, ?_⟩
  rw [List.any_eq_false]
  intro x hx
  have := List.findIdx?_eq_none_iff.1 h x hx
  simp [this]
 | some i =>
  obtain ⟨h1, h2, _⟩ := List.findIdx?_eq_some_iff_getElem.1 h
  exact .inr ⟨by dsimp only; omega, List.any_eq_true.2 ⟨_, List.getElem_mem h1, h2⟩⟩
section
variable {P : Program} {Q : Exit → Act → World → Prop} {ops : Array Oper}
end

set_option maxRecDepth 100000 in
set_option maxHeartbeats 2000000 in
theorem idx40_any (gs : Nat) (lb : Array Value) (g : S40 → Bool) (A : Option Addr) (c : Nat) (l : List S40) (w : World) (hC : Kd.C k40 w A l.length l) (hc : l.length ≤ c)
  (egs : ∀ args w, (callFunc gs args).run Try.prog w = .ok (.enter gs args) w)
  (hg : ∀ x W, Below w.heap.size w W → Calls Try.prog gs (#[.agg #[.int .i64 x.f0.f0, .int .i64 x.f0.f1, .int .i64 x.f1.f0, .int .i64 x.f1.f1]] ++ lb) W (RetB (.bool (g x)) W)) :
  Calls Try.prog 121 #[.slice A l.length c, .func (.func gs) #[] lb] w (RetB (.int .i64 (idxI g l)) w) := by
 have hu40 := Try.underlying40
 have hu27 := Try.underlying27
 have hb := hC.2.1
 have HI : Hid (idxI g l = match l.findIdx? g with | none => -1 | some i => (i : Int)) := Lib.hid rfl
 go_enter Try.func121, Try.ntmps121
 go_wp2
 go_loopw [8] (fun i wr => ∃ (k : Nat), k ≤ l.length ∧ i = .int .i64 k ∧ Hid ((l.take k).any g = false) ∧ Below w.heap.size w wr) (fun i _ => l.length - (intOf i).toNat)
 case atStart => exact ⟨0, Nat.zero_le _, rfl, Lib.hid (by simp), Below.refl _ _⟩
 case round =>
  obtain ⟨k, hk, rfl, HA, mB⟩ := hrel
  by_cases hlt : k < l.length
  ·obtain ⟨ad, rfl, hx0, hx1, hx2, hx3⟩ := at_T40 hC k (by omega) (by omega)
   simp only [Int.toNat_natCast] at hx0 hx1 hx2 hx3
   replace hx0 := (mB.cell (World.block_lt_of_cell? w _ hx0)).trans hx0
   replace hx1 := (mB.cell (World.block_lt_of_cell? w _ hx1)).trans hx1
   replace hx2 := (mB.cell (World.block_lt_of_cell? w _ hx2)).trans hx2
   replace hx3 := (mB.cell (World.block_lt_of_cell? w _ hx3)).trans hx3
   have hlk : l[k]? = some (rd_T40 l (k : Int)) := by simp [rd_T40, List.getD_eq_getElem?_getD, hlt]
   have htk : l.take (k + 1) = l.take k ++ [rd_T40 l (k : Int)] := by rw [List.take_add_one, hlk]; rfl
   generalize rd_T40 l (k : Int) = x at *
   have HT := Lib.hid htk
   have HK := Lib.hid hlk
   clear htk hlk
   go_wp2_with fail
   have hcon := hg x wr mB
   (with_reducible refine hcon.mono ?_)
   clear hcon hx0 hx1 hx2 hx3
   rintro e W1 ⟨rfl, hb1⟩
   replace mB := below_step mB hb1
   clear hb1
   cases hbx : g x with
   | true =>
    have HE := Lib.hid (HI.out.trans (by rw [findIdx_at HK.out HA.out hbx]))
    clear hbx
    go_wp2
    go_ret
    exact ⟨by rw [HE.out]; rfl, mB⟩
   | false =>
    have HB := Lib.hid hbx
    clear hbx
    go_wp2
    go_roundw
    case rel => exact ⟨k + 1, by omega, by simp, Lib.hid zq12, mB⟩
    case measure => simp [intOf]; omega
  ·obtain rfl : k = l.length := by omega
   rw [List.take_length] at HA
   have hn : l.findIdx? g = none := by
    rw [List.findIdx?_eq_none_iff]
    intro x hx
    have := List.any_eq_false.1 HA.out x hx
    simpa using this
   have HE := Lib.hid (HI.out.trans (by rw [hn]))
   clear hn
   go_wp2
   go_ret
   exact ⟨by rw [HE.out]; rfl, mB⟩
set_option maxHeartbeats 1000000 in
theorem cont40_any (gs : Nat) (lb : Array Value) (g : S40 → Bool) (A : Option Addr) (c : Nat) (l : List S40) (w : World) (hC : Kd.C k40 w A l.length l) (hc : l.length ≤ c)
  (egs : ∀ args w, (callFunc gs args).run Try.prog w = .ok (.enter gs args) w)
  (hg : ∀ x W, Below w.heap.size w W → Calls Try.prog gs (#[.agg #[.int .i64 x.f0.f0, .int .i64 x.f0.f1, .int .i64 x.f1.f0, .int .i64 x.f1.f1]] ++ lb) W (RetB (.bool (g x)) W)) :
  Calls Try.prog 75 #[.slice A l.length c, .func (.func gs) #[] lb] w (RetB (.bool (l.any g)) w) := by
 have hcon := idx40_any gs lb g A c l w hC hc egs hg
 clear hg egs
 go_enter Try.func75, Try.ntmps75
 go_wp2_with fail
 (with_reducible refine hcon.mono ?_)
 clear hcon
 rintro e W1 ⟨rfl, mB⟩
 rcases idxI_any g l with ⟨h1, h2⟩ | ⟨h1, h2⟩
 ·have HA := Lib.hid h2
  have hd : decide (0 ≤ idxI g l) = false := decide_eq_false (by omega)
  clear h1 h2
  go_wp2
  go_ret
  exact ⟨by rw [HA.out]; rfl, mB⟩
 ·have HA := Lib.hid h2
  have hd : decide (0 ≤ idxI g l) = true := decide_eq_true (by omega)
  clear h1 h2
  go_wp2
  go_ret
  exact ⟨by rw [HA.out]; rfl, mB⟩

set_option maxRecDepth 100000 in
set_option maxHeartbeats 2000000 in
theorem idx31_any (gs : Nat) (lb : Array Value) (g : S31 → Bool) (A : Option Addr) (c : Nat) (l : List S31) (w : World) (hC : Kd.C k31 w A l.length l) (hc : l.length ≤ c)
  (egs : ∀ args w, (callFunc gs args).run Try.prog w = .ok (.enter gs args) w)
  (hg : ∀ x W, Below w.heap.size w W → Calls Try.prog gs (#[.agg #[.int .i64 x.f0.f0, .int .i64 x.f0.f1, .int .i64 x.f1.f0, .int .i64 x.f1.f1]] ++ lb) W (RetB (.bool (g x)) W)) :
  Calls Try.prog 137 #[.slice A l.length c, .func (.func gs) #[] lb] w (RetB (.int .i64 (idxI g l)) w) := by
 have hu31 := Try.underlying31
 have hu27 := Try.underlying27
 have hb := hC.2.1
 have HI : Hid (idxI g l = match l.findIdx? g with | none => -1 | some i => (i : Int)) := Lib.hid rfl
 go_enter Try.func137, Try.ntmps137
 go_wp2
 go_loopw [8] (fun i wr => ∃ (k : Nat), k ≤ l.length ∧ i = .int .i64 k ∧ Hid ((l.take k).any g = false) ∧ Below w.heap.size w wr) (fun i _ => l.length - (intOf i).toNat)
 case atStart => exact ⟨0, Nat.zero_le _, rfl, Lib.hid (by simp), Below.refl _ _⟩
 case round =>
  obtain ⟨k, hk, rfl, HA, mB⟩ := hrel
  by_cases hlt : k < l.length
  ·obtain ⟨ad, rfl, hx0, hx1, hx2, hx3⟩ := at_T31 hC k (by omega) (by omega)
   simp only [Int.toNat_natCast] at hx0 hx1 hx2 hx3
   replace hx0 := (mB.cell (World.block_lt_of_cell? w _ hx0)).trans hx0
   replace hx1 := (mB.cell (World.block_lt_of_cell? w _ hx1)).trans hx1
   replace hx2 := (mB.cell (World.block_lt_of_cell? w _ hx2)).trans hx2
   replace hx3 := (mB.cell (World.block_lt_of_cell? w _ hx3)).trans hx3
   have hlk : l[k]? = some (rd_T31 l (k : Int)) := by simp [rd_T31, List.getD_eq_getElem?_getD, hlt]
   have htk : l.take (k + 1) = l.take k ++ [rd_T31 l (k : Int)] := by rw [List.take_add_one, hlk]; rfl
   generalize rd_T31 l (k : Int) = x at *
   have HT := Lib.hid htk
   have HK := Lib.hid hlk
   clear htk hlk
   go_wp2_with fail
   have hcon := hg x wr mB
   (with_reducible refine hcon.mono ?_)
   clear hcon hx0 hx1 hx2 hx3
   rintro e W1 ⟨rfl, hb1⟩
   replace mB := below_step mB hb1
   clear hb1
   cases hbx : g x with
   | true =>
    have HE := Lib.hid (HI.out.trans (by rw [findIdx_at HK.out HA.out hbx]))
    clear hbx
    go_wp2
    go_ret
    exact ⟨by rw [HE.out]; rfl, mB⟩
   | false =>
    have HB := Lib.hid hbx
    clear hbx
    go_wp2
    go_roundw
    case rel => exact ⟨k + 1, by omega, by simp, Lib.hid zq12, mB⟩
    case measure => simp [intOf]; omega
  ·obtain rfl : k = l.length := by omega
   rw [List.take_length] at HA
   have hn : l.findIdx? g = none := by
    rw [List.findIdx?_eq_none_iff]
    intro x hx
    have := List.any_eq_false.1 HA.out x hx
    simpa using this
   have HE := Lib.hid (HI.out.trans (by rw [hn]))
   clear hn
   go_wp2
   go_ret
   exact ⟨by rw [HE.out]; rfl, mB⟩
set_option maxHeartbeats 1000000 in
theorem cont31_any (gs : Nat) (lb : Array Value) (g : S31 → Bool) (A : Option Addr) (c : Nat) (l : List S31) (w : World) (hC : Kd.C k31 w A l.length l) (hc : l.length ≤ c)
  (egs : ∀ args w, (callFunc gs args).run Try.prog w = .ok (.enter gs args) w)
  (hg : ∀ x W, Below w.heap.size w W → Calls Try.prog gs (#[.agg #[.int .i64 x.f0.f0, .int .i64 x.f0.f1, .int .i64 x.f1.f0, .int .i64 x.f1.f1]] ++ lb) W (RetB (.bool (g x)) W)) :
  Calls Try.prog 125 #[.slice A l.length c, .func (.func gs) #[] lb] w (RetB (.bool (l.any g)) w) := by
 have hcon := idx31_any gs lb g A c l w hC hc egs hg
 clear hg egs
 go_enter Try.func125, Try.ntmps125
 go_wp2_with fail
 (with_reducible refine hcon.mono ?_)
 clear hcon
 rintro e W1 ⟨rfl, mB⟩
 rcases idxI_any g l with ⟨h1, h2⟩ | ⟨h1, h2⟩
 ·have HA := Lib.hid h2
  have hd : decide (0 ≤ idxI g l) = false := decide_eq_false (by omega)
  clear h1 h2
  go_wp2
  go_ret
  exact ⟨by rw [HA.out]; rfl, mB⟩
 ·have HA := Lib.hid h2
  have hd : decide (0 ≤ idxI g l) = true := decide_eq_true (by omega)
  clear h1 h2
  go_wp2
  go_ret
  exact ⟨by rw [HA.out]; rfl, mB⟩

/-- Is a current not valid? -/
def badC (most : Int) (c : S40) : Bool := !bndB c.f0.f0 c.f0.f1 (-most) most || !bndB c.f1.f0 c.f1.f1 (-most) most
set_option maxRecDepth 100000 in
set_option maxHeartbeats 2000000 in
theorem cs1_any (g1 : Nat) (s : Sea) (A7 A8 : Option Addr) (c7 c8 : Nat) (c : S40) (w : World) (hm0 : 0 ≤ s.most) (hm1 : s.most ≤ 5000) (hB : Blk w g1 #[.int .i64 s.nx, .int .i64 s.ny, .int .i64 s.cell, .int .i64 s.slot, .int .i64 s.slots, .int .i64 s.layers, .int .i64 s.most, .slice A7 s.shores.length c7, .slice A8 s.currents.length c8] 25) :
  Calls Try.prog 76 #[.agg #[.int .i64 c.f0.f0, .int .i64 c.f0.f1, .int .i64 c.f1.f0, .int .i64 c.f1.f1], .pointer (some ⟨g1, 0, none⟩)] w (RetB (.bool (badC s.most c)) w) := by
 have hu40 := Try.underlying40
 have hu27 := Try.underlying27
 have HB : Hid (badC s.most c = (!bndB c.f0.f0 c.f0.f1 (-s.most) s.most || !bndB c.f1.f0 c.f1.f1 (-s.most) s.most)) := Lib.hid rfl
 have c6 : ∀ o_, (w.alloc o_).cell? ⟨g1, 6, none⟩ = some (.int .i64 s.most) := fun o_ => (blk_cell (blk_alloc hB o_) 6).trans rfl
 go_enter Try.func76, Try.ntmps76
 go_wp2_with fail
 clear c6
 have m1 := hB
 clear hB
 have hl_1 := blk_lt m1
 have m2 : Blk (w.alloc (.cells #[.int .i64 c.f0.f0, .int .i64 c.f0.f1, .int .i64 c.f1.f0, .int .i64 c.f1.f1] 40)) (w.heap.size) #[.int .i64 c.f0.f0, .int .i64 c.f0.f1, .int .i64 c.f1.f0, .int .i64 c.f1.f1] 40 := (by have h_ := blk_new w (.cells #[.int .i64 c.f0.f0, .int .i64 c.f0.f1, .int .i64 c.f1.f0, .int .i64 c.f1.f1] 40); first | exact h_ | (simp only [World.size_alloc] at h_; exact h_))
 replace m1 : Blk (w.alloc (.cells #[.int .i64 c.f0.f0, .int .i64 c.f0.f1, .int .i64 c.f1.f0, .int .i64 c.f1.f1] 40)) g1 #[.int .i64 s.nx, .int .i64 s.ny, .int .i64 s.cell, .int .i64 s.slot, .int .i64 s.slots, .int .i64 s.layers, .int .i64 s.most, .slice A7 s.shores.length c7, .slice A8 s.currents.length c8] 25 := (blk_alloc m1 _)
 have mB : Below w.heap.size w (w.alloc (.cells #[.int .i64 c.f0.f0, .int .i64 c.f0.f1, .int .i64 c.f1.f0, .int .i64 c.f1.f1] 40)) := (below_alloc (Below.refl w.heap.size w) _)
 have hsz_ : w.heap.size ≤ w.heap.size := Nat.le_refl _
 generalize hW_ : (w.alloc (.cells #[.int .i64 c.f0.f0, .int .i64 c.f0.f1, .int .i64 c.f1.f0, .int .i64 c.f1.f1] 40)) = W1 at m1 m2 mB ⊢
 clear hW_
 generalize hg2 : w.heap.size = g2 at m2 ⊢
 have hn_1_2 : g1 ≠ g2 := by omega
 have hn_2_1 : g2 ≠ g1 := hn_1_2.symm
 have hG2 : w.heap.size ≤ g2 := by omega
 clear hsz_ hl_1
 try clear hg2
 have hs_W1 : w.heap.size ≤ W1.heap.size := mB.size
 have hcon := bnd_any c.f0.f0 c.f0.f1 (-s.most) s.most W1
 (with_reducible refine hcon.mono ?_)
 clear hcon
 rintro e W2 ⟨rfl, hb⟩
 replace m1 := blk_below m1 hb
 replace m2 := blk_below m2 hb
 replace mB := below_step mB hb
 clear hb
 have hs_W2 : w.heap.size ≤ W2.heap.size := mB.size
 cases h0 : bndB c.f0.f0 c.f0.f1 (-s.most) s.most with
 | false =>
  have HR := Lib.hid (HB.out.trans (by rw [h0]; rfl : _ = true))
  clear h0 HB
  go_wp2
  go_ret
  exact ⟨zq10, mB⟩
 | true =>
  have H0 := Lib.hid h0
  clear h0
  obtain ⟨c2_0, c2_1, c2_2, c2_3⟩ := zcs4 m2
  have c6 := (blk_cell m1 6).trans rfl
  go_wp2_with fail
  clear c2_0 c2_1 c2_2 c2_3 c6
  have hcon := bnd_any c.f1.f0 c.f1.f1 (-s.most) s.most W2
  (with_reducible refine hcon.mono ?_)
  clear hcon
  rintro e W3 ⟨rfl, hb⟩
  replace m1 := blk_below m1 hb
  replace m2 := blk_below m2 hb
  replace mB := below_step mB hb
  clear hb
  have hs_W3 : w.heap.size ≤ W3.heap.size := mB.size
  cases h1 : bndB c.f1.f0 c.f1.f1 (-s.most) s.most with
  | false =>
   have HR := Lib.hid (HB.out.trans (by rw [H0.out, h1]; rfl : _ = true))
   clear h1 HB
   go_wp2
   go_ret
   exact ⟨zq10, mB⟩
  | true =>
   have HR := Lib.hid (HB.out.trans (by rw [H0.out, h1]; rfl : _ = false))
   clear h1 HB
   go_wp2
   go_ret
   exact ⟨zq10, mB⟩

/-- Is a sea valid? -/
def seaB (s : Sea) : Bool := btwB s.nx 1 12 && btwB s.ny 1 12 && btwB s.cell 100 65536 && btwB s.slot 1 1048576 && btwB s.slots 1 16 && btwB s.layers 1 3 && btwB s.most 0 5000 && decide ((s.shores.length : Int) = s.nx * s.ny) && decide ((s.currents.length : Int) = s.slots * s.layers * (s.nx * s.ny)) && !s.currents.any (badC s.most)
def seaE (s : Sea) : Int := if seaB s then 0 else 2
set_option maxRecDepth 100000 in
set_option maxHeartbeats 8000000 in
theorem sea_any (s : Sea) (A7 A8 : Option Addr) (c7 c8 : Nat) (w : World) (h7 : s.shores.length ≤ c7) (hC7 : Kd.C Kd.bool w A7 s.shores.length s.shores) (h8 : s.currents.length ≤ c8) (hC8 : Kd.C k40 w A8 s.currents.length s.currents) :
  Calls Try.prog 25 #[.agg #[.int .i64 s.nx, .int .i64 s.ny, .int .i64 s.cell, .int .i64 s.slot, .int .i64 s.slots, .int .i64 s.layers, .int .i64 s.most, .slice A7 s.shores.length c7, .slice A8 s.currents.length c8]] w (RetB (.int .i64 (seaE s)) w) := by
 have hu25 := Try.underlying25
 have hb7 := hC7.2.1
 have hb8 := hC8.2.1
 have HE : Hid (seaE s = if seaB s then 0 else 2) := Lib.hid rfl
 have HB : Hid (seaB s = (btwB s.nx 1 12 && btwB s.ny 1 12 && btwB s.cell 100 65536 && btwB s.slot 1 1048576 && btwB s.slots 1 16 && btwB s.layers 1 3 && btwB s.most 0 5000 && decide ((s.shores.length : Int) = s.nx * s.ny) && decide ((s.currents.length : Int) = s.slots * s.layers * (s.nx * s.ny)) && !s.currents.any (badC s.most))) := Lib.hid rfl
 go_enter Try.func25, Try.ntmps25
 go_wp2_with fail
 have m1 : Blk (w.alloc (.cells #[.int .i64 s.nx, .int .i64 s.ny, .int .i64 s.cell, .int .i64 s.slot, .int .i64 s.slots, .int .i64 s.layers, .int .i64 s.most, .slice A7 s.shores.length c7, .slice A8 s.currents.length c8] 25)) (w.heap.size) #[.int .i64 s.nx, .int .i64 s.ny, .int .i64 s.cell, .int .i64 s.slot, .int .i64 s.slots, .int .i64 s.layers, .int .i64 s.most, .slice A7 s.shores.length c7, .slice A8 s.currents.length c8] 25 := zq13
 have mB : Below w.heap.size w (w.alloc (.cells #[.int .i64 s.nx, .int .i64 s.ny, .int .i64 s.cell, .int .i64 s.slot, .int .i64 s.slots, .int .i64 s.layers, .int .i64 s.most, .slice A7 s.shores.length c7, .slice A8 s.currents.length c8] 25)) := (below_alloc (Below.refl w.heap.size w) _)
 have hsz_ : w.heap.size ≤ w.heap.size := Nat.le_refl _
 generalize hW_ : (w.alloc (.cells #[.int .i64 s.nx, .int .i64 s.ny, .int .i64 s.cell, .int .i64 s.slot, .int .i64 s.slots, .int .i64 s.layers, .int .i64 s.most, .slice A7 s.shores.length c7, .slice A8 s.currents.length c8] 25)) = W0 at m1 mB ⊢
 clear hW_
 generalize hg1 : w.heap.size = g1 at m1 ⊢
 have hG1 : w.heap.size ≤ g1 := by omega
 clear hsz_
 try clear hg1
 have hs_W0 : w.heap.size ≤ W0.heap.size := mB.size
 have hcon := btw_any s.nx 1 12 W0
 (with_reducible refine hcon.mono ?_)
 clear hcon
 rintro e W1 ⟨rfl, hb⟩
 replace m1 := blk_below m1 hb
 replace mB := below_step mB hb
 clear hb
 have hs_W1 : w.heap.size ≤ W1.heap.size := mB.size
 cases h_ : btwB s.nx 1 12 with
 | false =>
  have HZ : Hid (seaE s = 2) := Lib.hid (by rw [HE.out, HB.out, h_]; simp)
  clear h_ HE HB
  go_wp2
  go_ret
  exact ⟨zq14, mB⟩
 | true =>
  have b0 := btwB_iff.1 h_
  have H0 := Lib.hid h_
  clear h_
  obtain ⟨c1_0, c1_1, c1_2, c1_3, c1_4, c1_5, c1_6, c1_7, c1_8⟩ := zcs9 m1
  go_wp2_with fail
  clear c1_0 c1_1 c1_2 c1_3 c1_4 c1_5 c1_6 c1_7 c1_8
  have hcon := btw_any s.ny 1 12 W1
  (with_reducible refine hcon.mono ?_)
  clear hcon
  rintro e W2 ⟨rfl, hb⟩
  replace m1 := blk_below m1 hb
  replace mB := below_step mB hb
  clear hb
  have hs_W2 : w.heap.size ≤ W2.heap.size := mB.size
  cases h_ : btwB s.ny 1 12 with
  | false =>
   have HZ : Hid (seaE s = 2) := Lib.hid (by rw [HE.out, HB.out, H0.out, h_]; simp)
   clear h_ HE HB
   go_wp2
   go_ret
   exact ⟨zq14, mB⟩
  | true =>
   have b1 := btwB_iff.1 h_
   have H1 := Lib.hid h_
   clear h_
   obtain ⟨c1_0, c1_1, c1_2, c1_3, c1_4, c1_5, c1_6, c1_7, c1_8⟩ := zcs9 m1
   go_wp2_with fail
   clear c1_0 c1_1 c1_2 c1_3 c1_4 c1_5 c1_6 c1_7 c1_8
   have hcon := btw_any s.cell 100 65536 W2
   (with_reducible refine hcon.mono ?_)
   clear hcon
   rintro e W3 ⟨rfl, hb⟩
   replace m1 := blk_below m1 hb
   replace mB := below_step mB hb
   clear hb
   have hs_W3 : w.heap.size ≤ W3.heap.size := mB.size
   cases h_ : btwB s.cell 100 65536 with
   | false =>
    have HZ : Hid (seaE s = 2) := Lib.hid (by rw [HE.out, HB.out, H0.out, H1.out, h_]; simp)
    clear h_ HE HB
    go_wp2
    go_ret
    exact ⟨zq14, mB⟩
   | true =>
    have b2 := btwB_iff.1 h_
    have H2 := Lib.hid h_
    clear h_
    obtain ⟨c1_0, c1_1, c1_2, c1_3, c1_4, c1_5, c1_6, c1_7, c1_8⟩ := zcs9 m1
    go_wp2_with fail
    clear c1_0 c1_1 c1_2 c1_3 c1_4 c1_5 c1_6 c1_7 c1_8
    have hcon := btw_any s.slot 1 1048576 W3
    (with_reducible refine hcon.mono ?_)
    clear hcon
    rintro e W4 ⟨rfl, hb⟩
    replace m1 := blk_below m1 hb
    replace mB := below_step mB hb
    clear hb
    have hs_W4 : w.heap.size ≤ W4.heap.size := mB.size
    cases h_ : btwB s.slot 1 1048576 with
    | false =>
     have HZ : Hid (seaE s = 2) := Lib.hid (by rw [HE.out, HB.out, H0.out, H1.out, H2.out, h_]; simp)
     clear h_ HE HB
     go_wp2
     go_ret
     exact ⟨zq14, mB⟩
    | true =>
     have b3 := btwB_iff.1 h_
     have H3 := Lib.hid h_
     clear h_
     obtain ⟨c1_0, c1_1, c1_2, c1_3, c1_4, c1_5, c1_6, c1_7, c1_8⟩ := zcs9 m1
     go_wp2_with fail
     clear c1_0 c1_1 c1_2 c1_3 c1_4 c1_5 c1_6 c1_7 c1_8
     have hcon := btw_any s.slots 1 16 W4
     (with_reducible refine hcon.mono ?_)
     clear hcon
     rintro e W5 ⟨rfl, hb⟩
     replace m1 := blk_below m1 hb
     replace mB := below_step mB hb
     clear hb
     have hs_W5 : w.heap.size ≤ W5.heap.size := mB.size
     cases h_ : btwB s.slots 1 16 with
     | false =>
      have HZ : Hid (seaE s = 2) := Lib.hid (by rw [HE.out, HB.out, H0.out, H1.out, H2.out, H3.out, h_]; simp)
      clear h_ HE HB
      go_wp2
      go_ret
      exact ⟨zq14, mB⟩
     | true =>
      have b4 := btwB_iff.1 h_
      have H4 := Lib.hid h_
      clear h_
      obtain ⟨c1_0, c1_1, c1_2, c1_3, c1_4, c1_5, c1_6, c1_7, c1_8⟩ := zcs9 m1
      go_wp2_with fail
      clear c1_0 c1_1 c1_2 c1_3 c1_4 c1_5 c1_6 c1_7 c1_8
      have hcon := btw_any s.layers 1 3 W5
      (with_reducible refine hcon.mono ?_)
      clear hcon
      rintro e W6 ⟨rfl, hb⟩
      replace m1 := blk_below m1 hb
      replace mB := below_step mB hb
      clear hb
      have hs_W6 : w.heap.size ≤ W6.heap.size := mB.size
      cases h_ : btwB s.layers 1 3 with
      | false =>
       have HZ : Hid (seaE s = 2) := Lib.hid (by rw [HE.out, HB.out, H0.out, H1.out, H2.out, H3.out, H4.out, h_]; simp)
       clear h_ HE HB
       go_wp2
       go_ret
       exact ⟨zq14, mB⟩
      | true =>
       have b5 := btwB_iff.1 h_
       have H5 := Lib.hid h_
       clear h_
       obtain ⟨c1_0, c1_1, c1_2, c1_3, c1_4, c1_5, c1_6, c1_7, c1_8⟩ := zcs9 m1
       go_wp2_with fail
       clear c1_0 c1_1 c1_2 c1_3 c1_4 c1_5 c1_6 c1_7 c1_8
       have hcon := btw_any s.most 0 5000 W6
       (with_reducible refine hcon.mono ?_)
       clear hcon
       rintro e W7 ⟨rfl, hb⟩
       replace m1 := blk_below m1 hb
       replace mB := below_step mB hb
       clear hb
       have hs_W7 : w.heap.size ≤ W7.heap.size := mB.size
       cases h_ : btwB s.most 0 5000 with
       | false =>
        have HZ : Hid (seaE s = 2) := Lib.hid (by rw [HE.out, HB.out, H0.out, H1.out, H2.out, H3.out, H4.out, H5.out, h_]; simp)
        clear h_ HE HB
        go_wp2
        go_ret
        exact ⟨zq14, mB⟩
       | true =>
        have b6 := btwB_iff.1 h_
        have H6 := Lib.hid h_
        clear h_
        have p1 := mul_in (show 0 ≤ s.nx by omega) b0.2 (show 0 ≤ s.ny by omega) b1.2
        have p2 := mul_in (show 0 ≤ s.slots by omega) b4.2 (show 0 ≤ s.layers by omega) b5.2
        have p3 := mul_in p2.1 p2.2 p1.1 p1.2
        have e1 : wrap64 (s.nx * s.ny) = s.nx * s.ny := by unfold wrap64; omega
        have HN := Lib.hid e1
        try rw [e1]
        clear e1
        by_cases q7 : (s.shores.length : Int) = s.nx * s.ny
        case neg =>
         have h_ : decide ((s.shores.length : Int) = s.nx * s.ny) = false := decide_eq_false q7
         have e_ : ((s.shores.length : Int) == s.nx * s.ny) = false := beq_eq_false_iff_ne.2 q7
         have e2_ : ((s.shores.length : Int) != s.nx * s.ny) = true := by rw [bne, e_]; rfl
         clear q7
         obtain ⟨c1_0, c1_1, c1_2, c1_3, c1_4, c1_5, c1_6, c1_7, c1_8⟩ := zcs9 m1
         have HZ : Hid (seaE s = 2) := Lib.hid (by rw [HE.out, HB.out, H0.out, H1.out, H2.out, H3.out, H4.out, H5.out, H6.out, h_]; simp)
         clear h_ HE HB
         go_wp2
         go_ret
         exact ⟨zq14, mB⟩
        case pos =>
         have h_ : decide ((s.shores.length : Int) = s.nx * s.ny) = true := decide_eq_true q7
         have H7 := Lib.hid h_
         have f7 : ((s.shores.length : Int) == s.nx * s.ny) = true := beq_iff_eq.2 q7
         have g7 : ((s.shores.length : Int) != s.nx * s.ny) = false := by rw [bne, f7]; rfl
         clear h_ q7
         by_cases q8 : (s.currents.length : Int) = s.slots * s.layers * (s.nx * s.ny)
         case neg =>
          have h_ : decide ((s.currents.length : Int) = s.slots * s.layers * (s.nx * s.ny)) = false := decide_eq_false q8
          have e_ : ((s.currents.length : Int) == s.slots * s.layers * (s.nx * s.ny)) = false := beq_eq_false_iff_ne.2 q8
          have e2_ : ((s.currents.length : Int) != s.slots * s.layers * (s.nx * s.ny)) = true := by rw [bne, e_]; rfl
          clear q8
          obtain ⟨c1_0, c1_1, c1_2, c1_3, c1_4, c1_5, c1_6, c1_7, c1_8⟩ := zcs9 m1
          have HZ : Hid (seaE s = 2) := Lib.hid (by rw [HE.out, HB.out, H0.out, H1.out, H2.out, H3.out, H4.out, H5.out, H6.out, H7.out, h_]; simp)
          clear h_ HE HB
          go_wp2
          go_ret
          exact ⟨zq14, mB⟩
         case pos =>
          have h_ : decide ((s.currents.length : Int) = s.slots * s.layers * (s.nx * s.ny)) = true := decide_eq_true q8
          have H8 := Lib.hid h_
          have f8 : ((s.currents.length : Int) == s.slots * s.layers * (s.nx * s.ny)) = true := beq_iff_eq.2 q8
          have g8 : ((s.currents.length : Int) != s.slots * s.layers * (s.nx * s.ny)) = false := by rw [bne, f8]; rfl
          clear h_ q8
          obtain ⟨c1_0, c1_1, c1_2, c1_3, c1_4, c1_5, c1_6, c1_7, c1_8⟩ := zcs9 m1
          go_wp2_with fail
          clear c1_0 c1_1 c1_2 c1_3 c1_4 c1_5 c1_6 c1_7 c1_8
          have hcon := cont40_any 76 #[.pointer (some ⟨g1, 0, none⟩)] (badC s.most) A8 c8 s.currents W7 (Kd.C_below hC8 mB) h8 (enters_of Try.func76 zq1 rfl) (fun x W hW => cs1_any g1 s A7 A8 c7 c8 x W b6.1 b6.2 (blk_below m1 hW))
          (with_reducible refine hcon.mono ?_)
          clear hcon
          rintro e W8 ⟨rfl, hb⟩
          replace m1 := blk_below m1 hb
          replace mB := below_step mB hb
          clear hb
          have hs_W8 : w.heap.size ≤ W8.heap.size := mB.size
          cases h_ : s.currents.any (badC s.most) with
          | true =>
           have HZ : Hid (seaE s = 2) := Lib.hid (by rw [HE.out, HB.out, H0.out, H1.out, H2.out, H3.out, H4.out, H5.out, H6.out, H7.out, H8.out, h_]; simp)
           clear h_ HE HB
           go_wp2
           go_ret
           exact ⟨zq14, mB⟩
          | false =>
           have HZ : Hid (seaE s = 0) := Lib.hid (by rw [HE.out, HB.out, H0.out, H1.out, H2.out, H3.out, H4.out, H5.out, H6.out, H7.out, H8.out, h_]; simp)
           clear h_ HE HB
           go_wp2
           go_ret
           exact ⟨zq14, mB⟩
end Go.Proofs.Ytmhaiihjfgfaoaa.Gl
end
section
/- A span that is moved for a dive. -/
namespace Go.Proofs.Ytmhaiihjfgfaoaa.Gl
open Go.RowKit Go.Shelf Go.Proofs.YtmhaiihjfgfaoaaW.PrintWords Go.Proofs.YtmhaiihjfgfaoaaW.PrintLast Go.Proofs.YtmhaiihjfgfaoaaW.PrintMore Go.Proofs.Ytmhaiihjfgfaoaa.Pr Go.Proofs.YtmhaiihjfgfaoaaW.Round
set_option linter.unusedVariables false
set_option linter.unusedSimpArgs false
attribute [local go_sem] max2_int min2_int max_two min_two max_four
/-- Down and up to whole numbers of a million. -/
def downM (x : Int) : Int := x / 1000000
def upM (x : Int) : Int := -((-x) / 1000000)
/-- A span that is moved by a speed and a current, for a dive. -/
def shiftI (dive : Int) (a : S27) (speed : Int) (u : S27) : S27 := ⟨a.f0 + downM ((speed + 1000 * u.f0) * dive), a.f1 + upM ((speed + 1000 * u.f1) * dive)⟩
theorem mul_abs {a b m n : Int} (h0 : -m ≤ a) (h1 : a ≤ m) (h2 : 0 ≤ b) (h3 : b ≤ n) (hm : 0 ≤ m) : -(m * n) ≤ a * b ∧ a * b ≤ m * n := by
 have k1 := Int.mul_le_mul_of_nonneg_right h1 h2
 have k2 := Int.mul_le_mul_of_nonneg_left h3 hm
 have k3 := Int.mul_le_mul_of_nonneg_right h0 h2
 rw [Int.neg_mul] at k3
 omega
theorem tdm (X : Int) : X = 1000000 * Int.tdiv X 1000000 + Int.tmod X 1000000 ∧ (0 ≤ X → 0 ≤ Int.tmod X 1000000 ∧ Int.tmod X 1000000 < 1000000) ∧ (X < 0 → -1000000 < Int.tmod X 1000000 ∧ Int.tmod X 1000000 ≤ 0) := by
 refine ⟨(Int.mul_tdiv_add_tmod X 1000000).symm, fun h => ?_, fun h => ?_⟩
 ·rw [Int.tmod_eq_emod_of_nonneg h]
  omega
 ·have e : X = -(-X) := by omega
  rw [e, Int.neg_tmod, Int.tmod_eq_emod_of_nonneg (show 0 ≤ -X by omega)]
  omega
theorem ret_span {a b c d : Int} (h : a = c) (h2 : b = d) : Ending.returned (.agg #[.int .i64 a, .int .i64 b]) = Ending.returned (.agg #[.int .i64 c, .int .i64 d]) := by rw [h, h2]
set_option maxRecDepth 100000 in
set_option maxHeartbeats 4000000 in
theorem shift_any (b : Nat) (s : Sea) (v : Veh) (a : S27) (speed : Int) (u : S27) (w : World) (hT : TripAt w b s v) (hV : VehN v) (ha0 : -1099511627776 ≤ a.f0 ∧ a.f0 ≤ 1099511627776) (ha1 : -1099511627776 ≤ a.f1 ∧ a.f1 ≤ 1099511627776) (hs0 : -5000000 ≤ speed ∧ speed ≤ 5000000) (hu0 : -5000 ≤ u.f0 ∧ u.f0 ≤ 5000) (hu1 : -5000 ≤ u.f1 ∧ u.f1 ≤ 5000) :
  Calls Try.prog 131 #[.pointer (some ⟨b, 0, none⟩), .agg #[.int .i64 a.f0, .int .i64 a.f1], .int .i64 speed, .agg #[.int .i64 u.f0, .int .i64 u.f1]] w (RetB (.agg #[.int .i64 (shiftI v.dive a speed u).f0, .int .i64 (shiftI v.dive a speed u).f1]) w) := by
 have hu27 := Try.underlying27
 obtain ⟨A7, c7, A8, c8, hB, _⟩ := hT
 have hd := hV.dive
 have m0 := mul_abs (a := speed + 1000 * u.f0) (b := v.dive) (m := 10000000) (n := 131072) (by omega) (by omega) (by omega) (by omega) (by omega)
 have m1 := mul_abs (a := speed + 1000 * u.f1) (b := v.dive) (m := 10000000) (n := 131072) (by omega) (by omega) (by omega) (by omega) (by omega)
 clear hV
 have HR : Hid (shiftI v.dive a speed u = ⟨a.f0 + downM ((speed + 1000 * u.f0) * v.dive), a.f1 + upM ((speed + 1000 * u.f1) * v.dive)⟩) := Lib.hid rfl
 go_enter Try.func131, Try.ntmps131
 go_wp2_with fail
 have mT := hB
 clear hB
 have hl_T := blk_lt mT
 have m5 : Blk (((w.alloc (.cells #[.int .i64 a.f0, .int .i64 a.f1] 27)).alloc (.cells #[.int .i64 u.f0, .int .i64 u.f1] 27)).alloc (.cells #[.int .i64 0, .int .i64 0] 27)) (w.heap.size) #[.int .i64 a.f0, .int .i64 a.f1] 27 := (blk_alloc (blk_alloc zq15 _) _)
 have m7 : Blk (((w.alloc (.cells #[.int .i64 a.f0, .int .i64 a.f1] 27)).alloc (.cells #[.int .i64 u.f0, .int .i64 u.f1] 27)).alloc (.cells #[.int .i64 0, .int .i64 0] 27)) (w.heap.size + 1) #[.int .i64 u.f0, .int .i64 u.f1] 27 := (blk_alloc (by have h_ := blk_new (w.alloc (.cells #[.int .i64 a.f0, .int .i64 a.f1] 27)) (.cells #[.int .i64 u.f0, .int .i64 u.f1] 27); first | exact h_ | (simp only [World.size_alloc] at h_; exact h_)) _)
 have m8 : Blk (((w.alloc (.cells #[.int .i64 a.f0, .int .i64 a.f1] 27)).alloc (.cells #[.int .i64 u.f0, .int .i64 u.f1] 27)).alloc (.cells #[.int .i64 0, .int .i64 0] 27)) (w.heap.size + 1 + 1) #[.int .i64 0, .int .i64 0] 27 := (by have h_ := blk_new ((w.alloc (.cells #[.int .i64 a.f0, .int .i64 a.f1] 27)).alloc (.cells #[.int .i64 u.f0, .int .i64 u.f1] 27)) (.cells #[.int .i64 0, .int .i64 0] 27); first | exact h_ | (simp only [World.size_alloc] at h_; exact h_))
 replace mT : Blk (((w.alloc (.cells #[.int .i64 a.f0, .int .i64 a.f1] 27)).alloc (.cells #[.int .i64 u.f0, .int .i64 u.f1] 27)).alloc (.cells #[.int .i64 0, .int .i64 0] 27)) b #[.int .i64 s.nx, .int .i64 s.ny, .int .i64 s.cell, .int .i64 s.slot, .int .i64 s.slots, .int .i64 s.layers, .int .i64 s.most, .slice A7 s.shores.length c7, .slice A8 s.currents.length c8, .int .i64 v.speed, .int .i64 v.dive, .int .i64 v.use.f0, .int .i64 v.use.f1, .int .i64 v.drift.f0, .int .i64 v.drift.f1, .int .i64 v.reserve] 110 := (blk_alloc (blk_alloc (blk_alloc mT _) _) _)
 have mB : Below w.heap.size w (((w.alloc (.cells #[.int .i64 a.f0, .int .i64 a.f1] 27)).alloc (.cells #[.int .i64 u.f0, .int .i64 u.f1] 27)).alloc (.cells #[.int .i64 0, .int .i64 0] 27)) := (below_alloc (below_alloc (below_alloc (Below.refl w.heap.size w) _) _) _)
 have hsz_ : w.heap.size ≤ w.heap.size := Nat.le_refl _
 generalize hW_ : (((w.alloc (.cells #[.int .i64 a.f0, .int .i64 a.f1] 27)).alloc (.cells #[.int .i64 u.f0, .int .i64 u.f1] 27)).alloc (.cells #[.int .i64 0, .int .i64 0] 27)) = W1 at mT m5 m7 m8 mB ⊢
 clear hW_
 generalize hg5 : w.heap.size = g5 at m5 m7 m8 ⊢
 have hn_T_5 : b ≠ g5 := by omega
 have hn_5_T : g5 ≠ b := hn_T_5.symm
 have hG5 : w.heap.size ≤ g5 := by omega
 generalize hg7 : g5 + 1 = g7 at m7 m8 ⊢
 have hn_T_7 : b ≠ g7 := by omega
 have hn_5_7 : g5 ≠ g7 := by omega
 have hn_7_T : g7 ≠ b := hn_T_7.symm
 have hn_7_5 : g7 ≠ g5 := hn_5_7.symm
 have hG7 : w.heap.size ≤ g7 := by omega
 generalize hg8 : g7 + 1 = g8 at m8 ⊢
 have hn_T_8 : b ≠ g8 := by omega
 have hn_5_8 : g5 ≠ g8 := by omega
 have hn_7_8 : g7 ≠ g8 := by omega
 have hn_8_T : g8 ≠ b := hn_T_8.symm
 have hn_8_5 : g8 ≠ g5 := hn_5_8.symm
 have hn_8_7 : g8 ≠ g7 := hn_7_8.symm
 have hG8 : w.heap.size ≤ g8 := by omega
 clear hsz_ hl_T
 try clear hg8
 try clear hg7
 try clear hg5
 have hs_W1 : w.heap.size ≤ W1.heap.size := mB.size
 replace mT := blk_drew mT
 replace m5 := blk_drew m5
 replace m7 := blk_drew m7
 replace m8 := blk_drew m8
 replace mB := below_drew1 mB
 have wf0_1 : wrap64 (1000 * u.f0) = 1000 * u.f0 := by unfold wrap64; omega
 have wf0_2 : wrap64 (speed + 1000 * u.f0) = speed + 1000 * u.f0 := by unfold wrap64; omega
 have wf0_3 : wrap64 ((speed + 1000 * u.f0) * v.dive) = (speed + 1000 * u.f0) * v.dive := by unfold wrap64; omega
 have wf1_1 : wrap64 (1000 * u.f1) = 1000 * u.f1 := by unfold wrap64; omega
 have wf1_2 : wrap64 (speed + 1000 * u.f1) = speed + 1000 * u.f1 := by unfold wrap64; omega
 have wf1_3 : wrap64 ((speed + 1000 * u.f1) * v.dive) = (speed + 1000 * u.f1) * v.dive := by unfold wrap64; omega
 refine start_ (n := 25) (S := fun w' => w'.cell? ⟨g7, 0, none⟩ = some (.int .i64 u.f0) ∧ w'.cell? ⟨g7, 1, none⟩ = some (.int .i64 u.f1) ∧ w'.cell? ⟨g5, 0, none⟩ = some (.int .i64 a.f0) ∧ w'.cell? ⟨g5, 1, none⟩ = some (.int .i64 a.f1) ∧ w'.cell? ⟨b, 10, none⟩ = some (.int .i64 v.dive)) (ds := [24]) #[false, false, false, false, false, false, false, false, false, false, false, false, false, false, false, false, false, false, false, false, false, false, false, false, false] zq1 rfl rfl ⟨((blk_cell m7 0).trans rfl), ((blk_cell m7 1).trans rfl), ((blk_cell m5 0).trans rfl), ((blk_cell m5 1).trans rfl), ((blk_cell mT 10).trans rfl)⟩ (fun hHeld => ?_)
 generalize hWd : World.drew _ = Wx at mB mT m5 m7 m8 hHeld ⊢
 clear hWd
 refine zpz (i := 0) (N := some 12) zq1 ?_
 refine zpz (i := 1) (N := some 13) zq1 ?_
 refine zpz (i := 5) (N := some 17) zq1 ?_
 refine zpz (i := 6) (N := some 18) zq1 ?_
 refine zpz (i := 7) (N := some 19) zq1 ?_
 refine zpz (i := 8) (N := some 20) zq1 ?_
 refine zpz (i := 11) (N := some 23) zq1 ?_
 refine zpz (i := 12) (N := some 24) zq1 ?_
 refine zpz (i := 16) (N := some 28) zq1 ?_
 refine zpz (i := 17) (N := some 29) zq1 ?_
 refine zpz (i := 18) (N := some 30) zq1 ?_
 refine zpz (i := 19) (N := some 31) zq1 ?_
 refine ztz (i := 2) (N := some 14) zq1 hHeld ?_
 refine zpz (i := 3) (N := some 15) zq1 ?_
 refine zpz (i := 4) (N := some 16) zq1 ?_
 refine ztz (i := 9) (N := some 21) zq1 hHeld ?_
 refine zpz (i := 10) (N := some 22) zq1 ?_
 refine ztz (i := 13) (N := some 25) zq1 hHeld ?_
 refine zpz (i := 14) (N := some 26) zq1 ?_
 refine zpz (i := 15) (N := some 27) zq1 ?_
 refine ztz (i := 20) (N := some 32) zq1 hHeld ?_
 refine zpz (i := 21) (N := some 33) zq1 ?_
 refine zpz (i := 22) (N := some 34) zq1 ?_
 refine one_ (i := 23) (N := some 9) #[true, true, true, true, true, true, true, true, true, true, true, true, true, true, true, true, true, true, true, true, true, true, true, true, false] rfl rfl zq1 (by decide) (fun K hK => ?_)
 refine value_ (w1 := ?_) (v := ?_) (by rfl) rfl ?_ ?_
 rotate_left 2
 ·go_simp
  constructor
  ·rfl
  ·rfl
 refine hK.out _ _ ⟨((blk_cell (blk_alloc m7 (.cells #[.int .i64 0, .int .i64 0] 27)) 0).trans rfl), ((blk_cell (blk_alloc m7 (.cells #[.int .i64 0, .int .i64 0] 27)) 1).trans rfl), ((blk_cell (blk_alloc m5 (.cells #[.int .i64 0, .int .i64 0] 27)) 0).trans rfl), ((blk_cell (blk_alloc m5 (.cells #[.int .i64 0, .int .i64 0] 27)) 1).trans rfl), ((blk_cell (blk_alloc mT (.cells #[.int .i64 0, .int .i64 0] 27)) 10).trans rfl)⟩ (fun hHeld => ?_)
 clear hK K
 refine norm_ zq16 ?_
 refine last_ (i := 24) (N := none) #[true, true, true, true, true, true, true, true, true, true, true, true, true, true, true, true, true, true, true, true, true, true, true, true, true] rfl rfl zq1 (by decide) (fun K hK => ?_)
 have hq_ := blk_new Wx (.cells #[.int .i64 0, .int .i64 0] 27)
 have hf0_ := blk_frozen hq_ 0
 have hf1_ := blk_frozen hq_ 1
 have hc0_ := (blk_cell hq_ 0).trans rfl
 have hc1_ := (blk_cell hq_ 1).trans rfl
 refine skip_ (w1 := ?_) (by rfl) rfl ?_ ?_
 rotate_left
 ·go_simp
  rfl
 clear hq_ hf0_ hf1_ hc0_ hc1_
 refine hK.out _ _ ?_
 clear hK K
 refine done_ zq1 ?_
 clear wf0_1 wf0_2 wf0_3
 clear wf1_1 wf1_2 wf1_3
 have hs_Wx : w.heap.size ≤ Wx.heap.size := mB.size
 have hl_T := blk_lt mT
 have hl_5 := blk_lt m5
 have hl_7 := blk_lt m7
 have hl_8 := blk_lt m8
 have m9 : Blk (Wx.alloc (.cells #[.int .i64 ((speed + 1000 * u.f0) * v.dive), .int .i64 ((speed + 1000 * u.f1) * v.dive)] 27)) (Wx.heap.size) #[.int .i64 ((speed + 1000 * u.f0) * v.dive), .int .i64 ((speed + 1000 * u.f1) * v.dive)] 27 := (by have h_ := blk_new Wx (.cells #[.int .i64 ((speed + 1000 * u.f0) * v.dive), .int .i64 ((speed + 1000 * u.f1) * v.dive)] 27); first | exact h_ | (simp only [World.size_alloc] at h_; exact h_))
 replace mT : Blk (Wx.alloc (.cells #[.int .i64 ((speed + 1000 * u.f0) * v.dive), .int .i64 ((speed + 1000 * u.f1) * v.dive)] 27)) b #[.int .i64 s.nx, .int .i64 s.ny, .int .i64 s.cell, .int .i64 s.slot, .int .i64 s.slots, .int .i64 s.layers, .int .i64 s.most, .slice A7 s.shores.length c7, .slice A8 s.currents.length c8, .int .i64 v.speed, .int .i64 v.dive, .int .i64 v.use.f0, .int .i64 v.use.f1, .int .i64 v.drift.f0, .int .i64 v.drift.f1, .int .i64 v.reserve] 110 := (blk_alloc mT _)
 replace m5 : Blk (Wx.alloc (.cells #[.int .i64 ((speed + 1000 * u.f0) * v.dive), .int .i64 ((speed + 1000 * u.f1) * v.dive)] 27)) g5 #[.int .i64 a.f0, .int .i64 a.f1] 27 := (blk_alloc m5 _)
 replace m7 : Blk (Wx.alloc (.cells #[.int .i64 ((speed + 1000 * u.f0) * v.dive), .int .i64 ((speed + 1000 * u.f1) * v.dive)] 27)) g7 #[.int .i64 u.f0, .int .i64 u.f1] 27 := (blk_alloc m7 _)
 replace m8 : Blk (Wx.alloc (.cells #[.int .i64 ((speed + 1000 * u.f0) * v.dive), .int .i64 ((speed + 1000 * u.f1) * v.dive)] 27)) g8 #[.int .i64 0, .int .i64 0] 27 := (blk_alloc m8 _)
 replace mB : Below w.heap.size w (Wx.alloc (.cells #[.int .i64 ((speed + 1000 * u.f0) * v.dive), .int .i64 ((speed + 1000 * u.f1) * v.dive)] 27)) := (below_alloc mB _)
 have hsz_ : w.heap.size ≤ Wx.heap.size := hs_Wx
 generalize hW_ : (Wx.alloc (.cells #[.int .i64 ((speed + 1000 * u.f0) * v.dive), .int .i64 ((speed + 1000 * u.f1) * v.dive)] 27)) = W2 at mT m5 m7 m8 m9 mB ⊢
 clear hW_
 generalize hg9 : Wx.heap.size = g9 at m9 ⊢
 have hn_T_9 : b ≠ g9 := by omega
 have hn_5_9 : g5 ≠ g9 := by omega
 have hn_7_9 : g7 ≠ g9 := by omega
 have hn_8_9 : g8 ≠ g9 := by omega
 have hn_9_T : g9 ≠ b := hn_T_9.symm
 have hn_9_5 : g9 ≠ g5 := hn_5_9.symm
 have hn_9_7 : g9 ≠ g7 := hn_7_9.symm
 have hn_9_8 : g9 ≠ g8 := hn_8_9.symm
 have hG9 : w.heap.size ≤ g9 := by omega
 clear hsz_ hl_T hl_5 hl_7 hl_8
 try clear hg9
 have hs_W2 : w.heap.size ≤ W2.heap.size := mB.size
 have t0 := tdm ((speed + 1000 * u.f0) * v.dive)
 have t1 := tdm ((speed + 1000 * u.f1) * v.dive)
 generalize (speed + 1000 * u.f0) * v.dive = X at *
 generalize (speed + 1000 * u.f1) * v.dive = Y at *
 generalize hq0 : Int.tdiv X 1000000 = q0 at *
 generalize hr0 : Int.tmod X 1000000 = r0 at *
 generalize hq1 : Int.tdiv Y 1000000 = q1 at *
 generalize hr1 : Int.tmod Y 1000000 = r1 at *
 have bq0 : -10000000000000 ≤ q0 ∧ q0 ≤ 10000000000000 := by omega
 have bq1 : -10000000000000 ≤ q1 ∧ q1 ≤ 10000000000000 := by omega
 have T0 := Lib.hid t0
 have T1 := Lib.hid t1
 clear t0 t1
 obtain ⟨c5_0, c5_1⟩ := zcs2 m5
 obtain ⟨c9_0, c9_1⟩ := zcs2 m9
 obtain ⟨c8_0, c8_1, f8_0, f8_1⟩ := zce2 m8
 go_wp2_with fail
 go_quiet (fail)
 clear hq0 hq1
 go_wp2
 all_goals
  have t0 := T0.out
  have t1 := T1.out
  try simp only [bne_iff_ne, ne_eq, bne_eq_false_iff_eq] at *
  exact bodyPost_ret (results_cell_row rfl _ _ g8 27 #[_, _] (0, 0) _ rfl (blk_put (blk_put (blk_drewN m8 _) 0 _ rfl) 1 _ rfl) Try.underlying27 rfl zq1) rfl ⟨ret_span (by rw [HR.out]; unfold downM; dsimp only; omega) (by rw [HR.out]; unfold upM; dsimp only; omega), (((pw_below_drewN mB) _).setCell hG8 _).setCell hG8 _⟩
end Go.Proofs.Ytmhaiihjfgfaoaa.Gl
end
section
/- The cells that a box touches, one after another. -/
namespace Go.Proofs.Ytmhaiihjfgfaoaa.Gl
open Go.RowKit Go.Shelf Go.Proofs.YtmhaiihjfgfaoaaW.PrintWords Go.Proofs.YtmhaiihjfgfaoaaW.PrintLast Go.Proofs.YtmhaiihjfgfaoaaW.PrintMore Go.Proofs.Ytmhaiihjfgfaoaa.Pr Go.Proofs.YtmhaiihjfgfaoaaW.Round
set_option linter.unusedVariables false
set_option linter.unusedSimpArgs false
attribute [local go_sem] max2_int min2_int max_two min_two max_four
attribute [local go_sem] Oper.semAt_some
def rowT (nx i0 : Int) (n : Nat) (k : Int) : List Int := (List.range n).map fun j : Nat => k * nx + (i0 + (j : Int))
def allT (nx i0 : Int) (n : Nat) (k0 : Int) (m : Nat) : List Int := (List.range m).flatMap fun r : Nat => rowT nx i0 n (k0 + (r : Int))
def uptoT (nx i0 : Int) (n : Nat) (k0 : Int) (q j : Nat) : List Int := allT nx i0 n k0 q ++ rowT nx i0 j (k0 + (q : Int))
theorem uptoT_zero (nx i0 : Int) (n : Nat) (k0 : Int) : uptoT nx i0 n k0 0 0 = [] := rfl
theorem uptoT_row (nx i0 : Int) (n : Nat) (k0 : Int) (q : Nat) : uptoT nx i0 n k0 q 0 = allT nx i0 n k0 q := by unfold uptoT rowT; simp
theorem uptoT_succ (nx i0 : Int) (n : Nat) (k0 : Int) (q j : Nat) : uptoT nx i0 n k0 q (j + 1) = uptoT nx i0 n k0 q j ++ [(k0 + (q : Int)) * nx + (i0 + (j : Int))] := by
 unfold uptoT rowT
 rw [List.range_succ, List.map_append, List.map_singleton, List.append_assoc]
theorem allT_succ (nx i0 : Int) (n : Nat) (k0 : Int) (q : Nat) : allT nx i0 n k0 (q + 1) = uptoT nx i0 n k0 q n := by
 unfold uptoT allT
 rw [List.range_succ, List.flatMap_append, List.flatMap_singleton]
theorem allT_pre (nx i0 : Int) (n : Nat) (k0 : Int) : ∀ (d q : Nat), allT nx i0 n k0 q <+: allT nx i0 n k0 (q + d)
 | 0, q => List.prefix_refl _
 | d + 1, q => by
  refine (allT_pre nx i0 n k0 d q).trans ?_
  rw [show q + (d + 1) = (q + d) + 1 by omega, allT_succ]
  exact List.prefix_append _ _
theorem uptoT_pre {nx i0 : Int} {n : Nat} {k0 : Int} {m q j : Nat} (hq : q < m) (hj : j ≤ n) : uptoT nx i0 n k0 q j <+: allT nx i0 n k0 m := by
 have h1 : uptoT nx i0 n k0 q j <+: uptoT nx i0 n k0 q n := by
  unfold uptoT
  refine (List.prefix_append_right_inj _).2 ?_
  unfold rowT
  refine List.IsPrefix.map _ ?_
  rw [show n = j + (n - j) by omega, List.range_add]
  exact List.prefix_append _ _
 rw [← allT_succ] at h1
 have h2 := allT_pre nx i0 n k0 (m - (q + 1)) (q + 1)
 rw [show q + 1 + (m - (q + 1)) = m by omega] at h2
 exact h1.trans h2
/-- The number of a cell. -/
abbrev CellN (s : Sea) := { c : Int // 0 ≤ c ∧ c < s.nx * s.ny }
/-- The cells that a box touches. -/
def touchL (s : Sea) (x : S31) : List Int := allT s.nx (numI s.cell x.f0 s.nx).1 ((numI s.cell x.f0 s.nx).2 + 1 - (numI s.cell x.f0 s.nx).1).toNat (numI s.cell x.f1 s.ny).1 ((numI s.cell x.f1 s.ny).2 + 1 - (numI s.cell x.f1 s.ny).1).toNat
def AllT (s : Sea) (x : S31) (xs : List (CellN s)) : Prop := xs.map Subtype.val = touchL s x
def PreT (s : Sea) (x : S31) (xs : List (CellN s)) : Prop := xs.map Subtype.val <+: touchL s x
theorem numI_in {c : Int} {a : S27} {most : Int} (hc : 1 ≤ c) (h0 : 0 ≤ a.f0) (h1 : 0 ≤ a.f1) (hm : 1 ≤ most) : (0 ≤ (numI c a most).1 ∧ (numI c a most).1 ≤ most - 1) ∧ (0 ≤ (numI c a most).2 ∧ (numI c a most).2 ≤ most - 1) := by
 have d0 := div_in h0 hc
 have d1 := div_in h1 hc
 unfold numI firstI
 dsimp only
 split <;> omega
/-- A box in the sea. -/
def InSea (s : Sea) (x : S31) : Prop := (0 ≤ x.f0.f0 ∧ x.f0.f0 ≤ 1099511627776) ∧ (0 ≤ x.f0.f1 ∧ x.f0.f1 ≤ 1099511627776) ∧ (0 ≤ x.f1.f0 ∧ x.f1.f0 ≤ 1099511627776) ∧ (0 ≤ x.f1.f1 ∧ x.f1.f1 ≤ 1099511627776)
set_option maxHeartbeats 1000000 in
theorem touched_any (b : Nat) (x : S31) (w : World) : Calls Try.prog 118 #[.pointer (some ⟨b, 0, none⟩), .agg #[.int .i64 x.f0.f0, .int .i64 x.f0.f1, .int .i64 x.f1.f0, .int .i64 x.f1.f1]] w fun e w' => e = .returned (.func (.func 135) #[] #[.pointer (some ⟨w.heap.size, 0, none⟩), .pointer (some ⟨w.heap.size + 1, 0, none⟩)]) ∧ w' = (w.alloc (.cells #[.pointer (some ⟨b, 0, none⟩)] 104)).alloc (.cells #[.int .i64 x.f0.f0, .int .i64 x.f0.f1, .int .i64 x.f1.f0, .int .i64 x.f1.f1] 31) := by
 have hu31 := Try.underlying31
 go_enter Try.func118, Try.ntmps118
 go_wp2
 go_ret
 exact ⟨rfl, rfl⟩
theorem row_in {nx ny k : Int} (hx : 1 ≤ nx) (h0 : 0 ≤ k) (h1 : k ≤ ny - 1) : 0 ≤ k * nx ∧ k * nx ≤ nx * ny - nx := by
 refine ⟨Int.mul_nonneg h0 (by omega), ?_⟩
 have h := Int.mul_le_mul_of_nonneg_right h1 (show 0 ≤ nx by omega)
 rw [Int.sub_mul, Int.one_mul, Int.mul_comm ny nx] at h
 exact h

/-- What the iterator reads. -/
def Env (w0 : World) (bp bx b : Nat) (x : S31) (W : World) : Prop := Below w0.heap.size w0 W ∧ Blk W bp #[.pointer (some ⟨b, 0, none⟩)] 104 ∧ Blk W bx #[.int .i64 x.f0.f0, .int .i64 x.f0.f1, .int .i64 x.f1.f0, .int .i64 x.f1.f1] 31
theorem Env.below {w0 : World} {bp bx b : Nat} {x : S31} {W W1 : World} (h : Env w0 bp bx b x W) (hb : Below W.heap.size W W1) : Env w0 bp bx b x W1 := ⟨below_step h.1 hb, h.2.1.below hb, h.2.2.below hb⟩
set_option maxRecDepth 100000 in
set_option maxHeartbeats 4000000 in
theorem touched1_in (n : Nat) (hn : 1 ≤ n) (l bp bx : Nat) (w0 : World) (b : Nat) (s : Sea) (v : Veh) (x : S31) (hT : TripAt w0 b s v) (hS : SeaN s) (hx : InSea s x) (Kp : World → World → Prop) (hKp : ∀ A B, Kp A B → Env w0 bp bx b x A → Env w0 bp bx b x B) (J Jx : List (CellN s) → World → Prop)
  (hY : ∀ pre c W, J pre W → pre.length < (touchL s x).length → YieldAt Fence.wide (n - 1) Try.prog l #[.int .i64 c.1] W fun e W' =>
   (e = .returned (.bool true) ∧ J (pre ++ [c]) W' ∧ Kp W W') ∨ (e = .returned (.bool false) ∧ Jx (pre ++ [c]) W'))
  (hJa : ∀ (f : List (CellN s)) W W', J f W → Below W.heap.size W W' → J f W')
  (W : World) (hE : Env w0 bp bx b x W) (h0 : J [] W) :
  CallsIn Fence.wide n Try.prog 135 #[.func (.yield l) #[] #[], .pointer (some ⟨bp, 0, none⟩), .pointer (some ⟨bx, 0, none⟩)] W fun e W' => (∃ v, e = .returned v) ∧
   ((∃ xs, AllT s x xs ∧ J xs W') ∨ (∃ pre, PreT s x pre ∧ Jx pre W')) := by
 have hu31 := Try.underlying31
 have hu27 := Try.underlying27
 obtain ⟨⟨x0, x1⟩, ⟨x2, x3⟩, ⟨x4, x5⟩, x6, x7⟩ := hx
 have hcl := hS.cell
 have hnx := hS.nx
 have hny := hS.ny
 have gI := numI_in (c := s.cell) (a := x.f0) (most := s.nx) (by omega) x0 x2 hnx.1
 have gK := numI_in (c := s.cell) (a := x.f1) (most := s.ny) (by omega) x4 x6 hny.1
 have kN := fun W (h : TripAt W b s v) => numbers_any b s v x.f0 s.nx W h hS x0 x1 x2 x3 hnx.1 hnx.2
 have kM := fun W (h : TripAt W b s v) => numbers_any b s v x.f1 s.ny W h hS x4 x5 x6 x7 hny.1 hny.2
 have hAll : touchL s x = allT s.nx (numI s.cell x.f0 s.nx).1 ((numI s.cell x.f0 s.nx).2 + 1 - (numI s.cell x.f0 s.nx).1).toNat (numI s.cell x.f1 s.ny).1 ((numI s.cell x.f1 s.ny).2 + 1 - (numI s.cell x.f1 s.ny).1).toNat := rfl
 generalize numI s.cell x.f0 s.nx = I at *
 generalize numI s.cell x.f1 s.ny = K at *
 obtain ⟨i0, i1⟩ := I
 obtain ⟨k0, k1⟩ := K
 dsimp only at gI gK kN kM hAll
 obtain ⟨⟨i2, i3⟩, i4, i5⟩ := gI
 obtain ⟨⟨k2, k3⟩, k4, k5⟩ := gK
 have HAll := Lib.hid hAll
 clear hAll hcl
 have hE0 := hE
 obtain ⟨hb0, mP, mX⟩ := hE0
 obtain ⟨A7, c7, A8, c8, mT, _⟩ := hT.below hb0
 clear hb0
 refine callsIn_of_wp Try.func135 rfl trivial ?_ rfl
 simp only [Try.ntmps135, List.size_toArray, List.length_cons, List.length_nil, Nat.reduceAdd, Nat.reduceSub, Array.replicate_succ, Array.replicate_zero, List.push_toArray, List.append_toArray, List.nil_append, List.cons_append]
 gi_wp2_with fail
 refine wpIn_only (wpIn_wide.2 ?_)
 replace mT := blk_drew mT
 replace mP := blk_drew mP
 replace mX := blk_drew mX
 replace h0 := hJa _ _ _ h0 (below_drew1 (Below.refl _ _))
 replace hE := hE.below (below_drew1 (Below.refl _ _))
 refine start_ (n := 14) (S := fun w' => w'.cell? ⟨bp, 0, none⟩ = some (.pointer (some ⟨b, 0, none⟩)) ∧ w'.cell? ⟨bx, 0, none⟩ = some (.int .i64 x.f0.f0) ∧ w'.cell? ⟨bx, 1, none⟩ = some (.int .i64 x.f0.f1) ∧ w'.cell? ⟨b, 0, none⟩ = some (.int .i64 s.nx)) (ds := []) #[false, false, false, false, false, false, false, false, false, false, false, false, false, false] zq1 rfl rfl ⟨((blk_cell mP 0).trans rfl), ((blk_cell mX 0).trans rfl), ((blk_cell mX 1).trans rfl), ((blk_cell mT 0).trans rfl)⟩ (fun hHeld => ?_)
 generalize hWd : World.drew _ = Wx at *
 clear hWd
 refine zpz (i := 1) (N := some 12) zq1 ?_
 refine ztz (i := 0) (N := some 11) zq1 hHeld ?_
 refine ztz (i := 2) (N := some 13) zq1 hHeld ?_
 refine ztz (i := 3) (N := some 14) zq1 hHeld ?_
 refine zpz (i := 4) (N := some 15) zq1 ?_
 refine zpz (i := 5) (N := some 16) zq1 ?_
 refine zpz (i := 6) (N := some 17) zq1 ?_
 refine ztz (i := 7) (N := some 18) zq1 hHeld ?_
 refine one_ (i := 8) (N := some 19) #[true, true, true, true, true, true, true, true, true, false, false, false, false, false] rfl rfl zq1 (by decide) (fun K hK => ?_)
 have hcon_ := kN Wx (hT.below hE.1)
 refine goes_ Try.func136 zq1 rfl #[.pointer (some ⟨b, 0, none⟩), .agg #[.int .i64 x.f0.f0, .int .i64 x.f0.f1], .int .i64 s.nx] (by rfl) rfl rfl zq17 ?_
 with_reducible refine (hcon_).mono ?_
 rintro e W1 ⟨rfl, hb2⟩
 refine ⟨_, rfl, ?_⟩
 clear hcon_
 replace mT := blk_below mT hb2
 replace mP := blk_below mP hb2
 replace mX := blk_below mX hb2
 replace h0 := hJa _ _ _ h0 hb2
 replace hE := hE.below hb2
 clear hb2
 refine hK.out _ _ ⟨((blk_cell mP 0).trans rfl), ((blk_cell mX 0).trans rfl), ((blk_cell mX 1).trans rfl), ((blk_cell mT 0).trans rfl)⟩ (fun hHeld => ?_)
 clear hK K
 refine norm_ (by show Act.put _ (some 19) _ = _; simp only [Act.put, List.setIfInBounds_toArray, List.set_cons_zero, List.set_cons_succ, i64_w, i32_w]; rfl) ?_
 refine zpz (i := 9) (N := some 10) zq1 ?_
 refine zpz (i := 10) (N := some 20) zq1 ?_
 refine zpz (i := 11) (N := some 21) zq1 ?_
 refine zpz (i := 12) (N := some 4) zq1 ?_
 refine zpz (i := 13) (N := some 5) zq1 ?_
 refine done_ zq1 ?_
 refine onlyN_normal ?_
 gi_wp2_with fail
 refine wpIn_only (wpIn_wide.2 ?_)
 replace mT := blk_drew mT
 replace mP := blk_drew mP
 replace mX := blk_drew mX
 replace h0 := hJa _ _ _ h0 (below_drew1 (Below.refl _ _))
 replace hE := hE.below (below_drew1 (Below.refl _ _))
 refine start_ (n := 14) (S := fun w' => w'.cell? ⟨bp, 0, none⟩ = some (.pointer (some ⟨b, 0, none⟩)) ∧ w'.cell? ⟨bx, 2, none⟩ = some (.int .i64 x.f1.f0) ∧ w'.cell? ⟨bx, 3, none⟩ = some (.int .i64 x.f1.f1) ∧ w'.cell? ⟨b, 1, none⟩ = some (.int .i64 s.ny)) (ds := []) #[false, false, false, false, false, false, false, false, false, false, false, false, false, false] zq1 rfl rfl ⟨((blk_cell mP 0).trans rfl), ((blk_cell mX 2).trans rfl), ((blk_cell mX 3).trans rfl), ((blk_cell mT 1).trans rfl)⟩ (fun hHeld => ?_)
 generalize hWd : World.drew _ = Wx at *
 clear hWd
 refine zpz (i := 1) (N := some 24) zq1 ?_
 refine ztz (i := 0) (N := some 23) zq1 hHeld ?_
 refine ztz (i := 2) (N := some 25) zq1 hHeld ?_
 refine ztz (i := 3) (N := some 26) zq1 hHeld ?_
 refine zpz (i := 4) (N := some 27) zq1 ?_
 refine zpz (i := 5) (N := some 28) zq1 ?_
 refine zpz (i := 6) (N := some 29) zq1 ?_
 refine ztz (i := 7) (N := some 30) zq1 hHeld ?_
 refine one_ (i := 8) (N := some 31) #[true, true, true, true, true, true, true, true, true, false, false, false, false, false] rfl rfl zq1 (by decide) (fun K hK => ?_)
 have hcon_ := kM Wx (hT.below hE.1)
 refine goes_ Try.func136 zq1 rfl #[.pointer (some ⟨b, 0, none⟩), .agg #[.int .i64 x.f1.f0, .int .i64 x.f1.f1], .int .i64 s.ny] (by rfl) rfl rfl zq17 ?_
 with_reducible refine (hcon_).mono ?_
 rintro e W2 ⟨rfl, hb2⟩
 refine ⟨_, rfl, ?_⟩
 clear hcon_
 replace mT := blk_below mT hb2
 replace mP := blk_below mP hb2
 replace mX := blk_below mX hb2
 replace h0 := hJa _ _ _ h0 hb2
 replace hE := hE.below hb2
 clear hb2
 refine hK.out _ _ ⟨((blk_cell mP 0).trans rfl), ((blk_cell mX 2).trans rfl), ((blk_cell mX 3).trans rfl), ((blk_cell mT 1).trans rfl)⟩ (fun hHeld => ?_)
 clear hK K
 refine norm_ (by show Act.put _ (some 31) _ = _; simp only [Act.put, List.setIfInBounds_toArray, List.set_cons_zero, List.set_cons_succ, i64_w, i32_w]; rfl) ?_
 refine zpz (i := 9) (N := some 22) zq1 ?_
 refine zpz (i := 10) (N := some 32) zq1 ?_
 refine zpz (i := 11) (N := some 33) zq1 ?_
 refine zpz (i := 12) (N := some 6) zq1 ?_
 refine zpz (i := 13) (N := some 7) zq1 ?_
 refine done_ zq1 ?_
 refine onlyN_normal ?_
 clear mT mP mX kN kM
 gi_wp2
 gi_loopw [8] (fun i wr => ∃ (q : Nat) (pre : List (CellN s)), q ≤ (k1 + 1 - k0).toNat ∧ i = .int .i64 (k0 + (q : Int)) ∧ Hid (pre.map Subtype.val = uptoT s.nx i0 (i1 + 1 - i0).toNat k0 q 0) ∧ Env w0 bp bx b x wr ∧ J pre wr) (fun i _ => (k1 + 1 - intOf i).toNat)
 case atStart => exact ⟨0, [], Nat.zero_le _, by simp, Lib.hid (by rw [uptoT_zero]; rfl), hE, h0⟩
 case round =>
  clear hE h0
  obtain ⟨q, pre, hq, rfl, HP, hE, hJs⟩ := hrel
  by_cases hlt : k0 + (q : Int) ≤ k1
  ·gi_wp2
   gi_loopw [9] (fun i wr2 => ∃ (j : Nat) (pre2 : List (CellN s)), j ≤ (i1 + 1 - i0).toNat ∧ i = .int .i64 (i0 + (j : Int)) ∧ Hid (pre2.map Subtype.val = uptoT s.nx i0 (i1 + 1 - i0).toNat k0 q j) ∧ Env w0 bp bx b x wr2 ∧ J pre2 wr2) (fun i _ => (i1 + 1 - intOf i).toNat)
   case atStart => exact ⟨0, pre, Nat.zero_le _, by simp, HP, hE, hJs⟩
   case round =>
    clear hE hJs
    obtain ⟨j, pre2, hj, rfl, HQ, hE, hJ2⟩ := hrel
    by_cases hjk : i0 + (j : Int) ≤ i1
    ·have hlen : pre2.length < (touchL s x).length := by
      have h1 := uptoT_pre (nx := s.nx) (i0 := i0) (k0 := k0) (show q < (k1 + 1 - k0).toNat by omega) (show j + 1 ≤ (i1 + 1 - i0).toNat by omega)
      have h2 := h1.length_le
      rw [uptoT_succ, ← HQ.out, ← HAll.out] at h2
      simp at h2
      omega
     have hr := row_in (ny := s.ny) (k := k0 + (q : Int)) hnx.1 (by omega) (by omega)
     have hxy := mul_in (show 0 ≤ s.nx by omega) hnx.2 (show 0 ≤ s.ny by omega) hny.2
     obtain ⟨fn, tmps, assign, body, hy, hR⟩ := hY pre2 ⟨(k0 + (q : Int)) * s.nx + (i0 + (j : Int)), by omega, by omega⟩ _ hJ2 hlen
     dsimp only at hy
     have hE0 := hE
     obtain ⟨hb0, mP, _⟩ := hE0
     obtain ⟨A7, c7, A8, c8, mT, _⟩ := hT.below hb0
     clear hb0
     have cP := (blk_cell mP 0).trans rfl
     have cT := (blk_cell mT 0).trans rfl
     clear mT mP
     gi_wp2
     refine hR.mono ?_
     rintro e W3 (⟨rfl, hJ3, hk3⟩ | ⟨rfl, hJx3⟩)
     ·clear cP cT
      have hE3 := hKp _ _ hk3 hE
      clear hk3 hE
      gi_wp2
      go_roundw
      case rel => exact ⟨j + 1, _, by omega, by simp; omega, Lib.hid (by rw [List.map_append, HQ.out, uptoT_succ]; rfl), hE3, hJ3⟩
      case measure => simp [intOf]; omega
     ·gi_wp2
      refine bodyPost_ret (results_none rfl _ _ _) rfl ?_
      refine ⟨⟨_, rfl⟩, .inr ⟨_, ?_, hJx3⟩⟩
      show List.map Subtype.val _ <+: _
      rw [List.map_append, HQ.out, List.map_singleton, ← uptoT_succ, HAll.out]
      exact uptoT_pre (by omega) (by omega)
    ·obtain rfl : j = (i1 + 1 - i0).toNat := by omega
     gi_wp2
     go_roundw
     case rel => exact ⟨q + 1, pre2, by omega, by simp; omega, Lib.hid (by rw [HQ.out, uptoT_row, ← allT_succ]), hE, hJ2⟩
     case measure => simp [intOf]; omega
  ·obtain rfl : q = (k1 + 1 - k0).toNat := by omega
   gi_wp2
   go_end0
   exact ⟨⟨_, rfl⟩, .inl ⟨pre, by unfold AllT; rw [HAll.out, HP.out, uptoT_row], hJs⟩⟩
end Go.Proofs.Ytmhaiihjfgfaoaa.Gl
end
