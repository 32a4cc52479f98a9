/- Part 8 of the proof of ClockOrder: what the functions compute. No condition. -/
import Derived.Test.YtcjdhajdoikojaaCoClockOrder3
import Derived.Test.YtcjdhajdoikojaaCoClockOrder7
set_option linter.unusedVariables false
set_option linter.unusedSimpArgs false
section
/- A clock with its anchors, as the program makes it, or the error. -/
namespace Go.Proofs.Ytcjdhajdoikojaa.Clk
open Go.RowKit Go.Shelf Go.Proofs.YtcjdhajdoikojaaW.PrintWords Go.Proofs.YtcjdhajdoikojaaW.PrintLast Go.Proofs.YtcjdhajdoikojaaW.PrintMore Go.Proofs.Ytcjdhajdoikojaa.Pr Go.Proofs.YtcjdhajdoikojaaW.Round
set_option linter.unusedVariables false
set_option linter.unusedSimpArgs false

/-- Is a span valid? -/
def okS (lo hi : Int) : Bool := !(decide (lo > hi) || decide (lo < -1073741824) || decide (hi > 1073741824))
theorem check_span (k : Nat) (lo hi : Int) : bound_Check.f (k + 2) lo hi = some (if okS lo hi then 0 else 2) := by
 unfold bound_Check.f bound_check.f okS
 simp only [bound_check.l0, rd_T35]
 by_cases h1 : hi < lo
 ·simp [h1]
  try omega
 ·by_cases h2 : lo < -1073741824
  ·simp [h1, h2]
   try omega
  ·by_cases h3 : 1073741824 < hi
   ·simp [h1, h2, h3]
   ·have h3' : hi ≤ 1073741824 := by omega
    have h2' : -1073741824 ≤ lo := by omega
    have h1' : lo ≤ hi := by omega
    simp [h1, h2, h3, wrap64, h3', h2', h1']
/-- Is a number a time? -/
def okT (t : Int) : Bool := decide (0 ≤ t) && decide (t ≤ 1125899906842624)
theorem isTime_some (t : Int) : clock_isTime.f t = some (okT t) := by
 unfold clock_isTime.f okT
 by_cases h : t ≥ 0
 ·rw [if_pos h, show decide (0 ≤ t) = true from decide_eq_true h]; simp
 ·rw [if_neg h, show decide (0 ≤ t) = false from decide_eq_false h]; simp
/-- Is an exchange valid? -/
def okX (x : S46) : Bool :=
 (okT x.f0 && okT x.f3 && !decide (x.f0 > x.f3)) && (okT x.f1 && okT x.f2 && !decide (x.f1 > x.f2)) && (okS x.f4.f0 x.f4.f1 && okS x.f5.f0 x.f5.f1 && !decide (x.f4.f0 < 0) && !decide (x.f5.f0 < 0))
theorem checkX_some (k : Nat) (x : S46) : clock_CheckExchange.f (k + 4) x.f0 x.f1 x.f2 x.f3 x.f4.f0 x.f4.f1 x.f5.f0 x.f5.f1 = some (if okX x then 0 else 2) := by
 unfold clock_CheckExchange.f okX
 simp only [isTime_some, Option.bind_some, clock_CheckExchange.j0, clock_CheckExchange.j1, check_span]
 cases h0 : okT x.f0
 ·simp
 cases h3 : okT x.f3
 ·simp
 by_cases h03 : x.f0 > x.f3
 ·simp [h03]
 cases h1 : okT x.f1
 ·simp [h03]
 cases h2 : okT x.f2
 ·simp [h03]
 by_cases h12 : x.f1 > x.f2
 ·simp [h03, h12]
 cases h4 : okS x.f4.f0 x.f4.f1
 ·simp [h03, h12]
 cases h5 : okS x.f5.f0 x.f5.f1
 ·simp [h03, h12]
 by_cases h40 : x.f4.f0 < 0
 ·simp [h03, h12, h40]
  try omega
 by_cases h50 : x.f5.f0 < 0
 ·simp [h03, h12, h40, h50]
  try omega
 have e1 : x.f0 ≤ x.f3 := by omega
 have e2 : x.f1 ≤ x.f2 := by omega
 have e3 : 0 ≤ x.f4.f0 := by omega
 have e4 : 0 ≤ x.f5.f0 := by omega
 simp [h03, h12, h40, h50, e1, e2, e3, e4]
theorem ckx_any (x : S46) (w : World) : Calls Try.prog 30 #[.agg #[.int .i64 x.f0, .int .i64 x.f1, .int .i64 x.f2, .int .i64 x.f3, .int .i64 x.f4.f0, .int .i64 x.f4.f1, .int .i64 x.f5.f0, .int .i64 x.f5.f1]] w fun e w' =>
  e = .returned (.int .i64 (if okX x then 0 else 2)) ∧ Below w.heap.size w w' := clock_CheckExchange.calls 4 _ _ _ _ _ _ _ _ _ w (checkX_some 0 x)
theorem check_any (lo hi : Int) (w : World) : Calls Try.prog 72 #[.agg #[.int .i64 lo, .int .i64 hi]] w fun e w' => e = .returned (.int .i64 (if okS lo hi then 0 else 2)) ∧ Below w.heap.size w w' := bound_Check.calls 2 _ _ _ w (check_span 0 lo hi)

/-- Is an exchange valid for a clock of this rate? -/
def okE (rate : Int) (x : S46) : Bool := okX x && decide ((offsetI x rate).1 ≤ (offsetI x rate).2) && okS (offsetI x rate).1 (offsetI x rate).2
def anchorI (rate : Int) (x : S46) : S105 := ⟨⟨(offsetI x rate).1, (offsetI x rate).2⟩, x.f3⟩
/-- The error of a clock. -/
def faceE (par rate : Int) (xs : List S46) : Int :=
 if xs.length < 1 ∨ xs.length > 64 then 6 else if par < -1 ∨ rate < 0 ∨ rate > 1000000 then 2 else if xs.all (okE rate) then 0 else 2
/-- A clock with its anchors, and the block of these is known. -/
def FaceR (W : World) (b : Nat) (par rate : Int) (ys : List S105) : Prop := ∃ v base, Blk W b #[.int .i64 par, .int .i64 rate, v] 109 ∧ Kd.R k105 105 W base (fun _ => True) v ys
theorem FaceR.at {W : World} {b : Nat} {par rate : Int} {ys : List S105} (h : FaceR W b par rate ys) : FaceAt W b par rate ys := by
 obtain ⟨v, base, h1, h2⟩ := h
 obtain ⟨A, c, rfl, hl, hC⟩ := Kd.R_reads h2
 exact ⟨A, c, h1, hl, hC⟩
theorem FaceR.below {W W1 : World} {b : Nat} {par rate : Int} {ys : List S105} (h : FaceR W b par rate ys) (hb : Below W.heap.size W W1) : FaceR W1 b par rate ys := by
 obtain ⟨v, base, h1, h2⟩ := h
 exact ⟨v, base, h1.below hb, Kd.R_below h2 hb⟩
def NewFacePost (par rate : Int) (xs : List S46) (w : World) (e : Ending) (w' : World) : Prop :=
 ∃ ptr, e = .returned (.tuple #[.pointer ptr, .int .i64 (faceE par rate xs)]) ∧ Below w.heap.size w w' ∧ ((faceE par rate xs = 0 ∧ ∃ g, ptr = some ⟨g, 0, none⟩ ∧ w.heap.size ≤ g ∧ FaceR w' g par rate (xs.map (anchorI rate))) ∨ (faceE par rate xs ≠ 0 ∧ ptr = none))
theorem newFace_bad {par rate : Int} {xs : List S46} {w w' : World} {c : Int} (h : faceE par rate xs = c) (hc : c ≠ 0) (hb : Below w.heap.size w w') : NewFacePost par rate xs w (.returned (.tuple #[.pointer none, .int .i64 c])) w' := ⟨none, by rw [h], hb, .inr ⟨by rw [h]; exact hc, rfl⟩⟩

set_option maxRecDepth 100000 in
set_option maxHeartbeats 4000000 in
theorem newFace_any (par rate : Int) (A : Option Addr) (c : Nat) (xs : List S46) (w : World) (hC : Kd.C k46 w A xs.length xs) (hc : xs.length ≤ c) :
  Calls Try.prog 64 #[.agg #[.int .i64 par, .int .i64 rate, .slice A xs.length c]] w (NewFacePost par rate xs w) := by
 have hu35 := Try.underlying35
 have hu105 := Try.underlying105
 have hu46 := Try.underlying46
 have hu109 := Try.underlying109
 have hu30 := Try.underlying30
 by_cases h1 : xs.length < 1
 ·have hE : Hid (faceE par rate xs = 6) := Lib.hid (by unfold faceE; rw [if_pos (.inl h1)])
  have d1 : decide ((xs.length : Int) < 1) = true := decide_eq_true (by omega)
  have d2 : decide (xs.length < 1) = true := decide_eq_true (by omega)
  go_enter Try.func64, Try.ntmps64
  go_wp2
  go_ret2
  exact newFace_bad hE.out (by decide) (below_alloc (Below.refl _ _) _)
 have d1 : decide ((xs.length : Int) < 1) = false := decide_eq_false (by omega)
 have d2 : decide (xs.length < 1) = false := decide_eq_false (by omega)
 by_cases h2 : xs.length > 64
 ·have hE : Hid (faceE par rate xs = 6) := Lib.hid (by unfold faceE; rw [if_pos (.inr h2)])
  have d3 : decide ((64 : Int) < (xs.length : Int)) = true := decide_eq_true (by omega)
  have d4 : decide (64 < xs.length) = true := decide_eq_true (by omega)
  go_enter Try.func64, Try.ntmps64
  go_wp2
  go_ret2
  exact newFace_bad hE.out (by decide) (below_alloc (Below.refl _ _) _)
 have d3 : decide ((64 : Int) < (xs.length : Int)) = false := decide_eq_false (by omega)
 have d4 : decide (64 < xs.length) = false := decide_eq_false (by omega)
 by_cases p1 : par < -1
 ·have hE : Hid (faceE par rate xs = 2) := Lib.hid zq27
  have p1_0 : decide (par < -1) = true := decide_eq_true (by omega)
  go_enter Try.func64, Try.ntmps64
  go_wp2
  go_ret2
  exact newFace_bad hE.out (by decide) (below_alloc (Below.refl _ _) _)
 have p1_0 : decide (par < -1) = false := decide_eq_false (by omega)
 by_cases p2 : rate < 0
 ·have hE : Hid (faceE par rate xs = 2) := Lib.hid zq27
  have p2_0 : decide (rate < 0) = true := decide_eq_true (by omega)
  go_enter Try.func64, Try.ntmps64
  go_wp2
  go_ret2
  exact newFace_bad hE.out (by decide) (below_alloc (Below.refl _ _) _)
 have p2_0 : decide (rate < 0) = false := decide_eq_false (by omega)
 by_cases p3 : rate > 1000000
 ·have hE : Hid (faceE par rate xs = 2) := Lib.hid zq27
  have p3_0 : decide (1000000 < rate) = true := decide_eq_true (by omega)
  go_enter Try.func64, Try.ntmps64
  go_wp2
  go_ret2
  exact newFace_bad hE.out (by decide) (below_alloc (Below.refl _ _) _)
 have p3_0 : decide (1000000 < rate) = false := decide_eq_false (by omega)
 have hF0 : faceE par rate xs = if xs.all (okE rate) then 0 else 2 := by unfold faceE; rw [if_neg (by omega), if_neg (by omega)]
 have hF := Lib.hid hF0
 have hL : xs.length ≤ 64 := by omega
 have hL1 : 1 ≤ xs.length := by omega
 clear hF0 h1 h2 p1 p2 p3
 obtain ⟨ad, rfl, _⟩ := at_T46 hC 0 (by omega) (by omega)
 go_enter Try.func64, Try.ntmps64
 go_wp2
 have m1 : Blk ((w.alloc (.cells #[.int .i64 par, .int .i64 rate, .slice (some ad) xs.length c] 30)).alloc (.cells #[.int .i64 par, .int .i64 rate, .slice none 0 0] 109)) (w.heap.size) #[.int .i64 par, .int .i64 rate, .slice (some ad) xs.length c] 30 := (blk_alloc (by have h_ := blk_new w (.cells #[.int .i64 par, .int .i64 rate, .slice (some ad) xs.length c] 30); first | exact h_ | (simp only [World.size_alloc] at h_; exact h_)) _)
 have m4 : Blk ((w.alloc (.cells #[.int .i64 par, .int .i64 rate, .slice (some ad) xs.length c] 30)).alloc (.cells #[.int .i64 par, .int .i64 rate, .slice none 0 0] 109)) (w.heap.size + 1) #[.int .i64 par, .int .i64 rate, .slice none 0 0] 109 := (by have h_ := blk_new (w.alloc (.cells #[.int .i64 par, .int .i64 rate, .slice (some ad) xs.length c] 30)) (.cells #[.int .i64 par, .int .i64 rate, .slice none 0 0] 109); first | exact h_ | (simp only [World.size_alloc] at h_; exact h_))
 have mB : Below w.heap.size w ((w.alloc (.cells #[.int .i64 par, .int .i64 rate, .slice (some ad) xs.length c] 30)).alloc (.cells #[.int .i64 par, .int .i64 rate, .slice none 0 0] 109)) := (below_alloc (below_alloc (Below.refl w.heap.size w) _) _)
 have hsz_ : w.heap.size ≤ w.heap.size := Nat.le_refl _
 generalize hW_ : ((w.alloc (.cells #[.int .i64 par, .int .i64 rate, .slice (some ad) xs.length c] 30)).alloc (.cells #[.int .i64 par, .int .i64 rate, .slice none 0 0] 109)) = W1 at m1 m4 mB ⊢
 clear hW_
 generalize hg1 : w.heap.size = g1 at m1 m4 ⊢
 have hG1 : w.heap.size ≤ g1 := by omega
 generalize hg4 : g1 + 1 = g4 at m4 ⊢
 have hn_1_4 : g1 ≠ g4 := by omega
 have hn_4_1 : g4 ≠ g1 := hn_1_4.symm
 have hG4 : w.heap.size ≤ g4 := by omega
 clear hsz_
 try clear hg4
 try clear hg1
 have hs_W1 : w.heap.size ≤ W1.heap.size := mB.size
 have hinfo : (Try.prog.info? 105).map (fun i => (i.zero, i.size, i.bytes)) = some (some (.agg #[.int .i64 0, .int .i64 0, .int .i64 0]), 3, 24) := by kernel_rfl
 have HI := Lib.hid hinfo
 clear hinfo
 go_loopw [41] (fun i wr => ∃ (k : Nat) (v : Value), k ≤ xs.length ∧ i = .int .i64 k ∧ Hid ((xs.take k).all (okE rate) = true) ∧ Blk wr g1 #[.int .i64 par, .int .i64 rate, .slice (some ad) xs.length c] 30 ∧ Blk wr g4 #[.int .i64 par, .int .i64 rate, v] 109 ∧ Kd.R k105 105 wr w.heap.size (fun _ => True) v ((xs.take k).map (anchorI rate)) ∧ Below w.heap.size w wr) (fun i _ => xs.length - (intOf i).toNat)
 case atStart => exact ⟨0, _, Nat.zero_le _, rfl, Lib.hid (by simp), m1, m4, by simpa using Kd.R_nil k105 105 W1 w.heap.size (fun _ => True), mB⟩
 case round =>
  clear m1 m4 mB
  obtain ⟨k, v, hk, rfl, HA, m1, m4, HO, mB⟩ := hrel
  have hs_wr : w.heap.size ≤ wr.heap.size := mB.size
  by_cases hlt : k < xs.length
  ·obtain ⟨ad_, e_, hx0, hx1, hx2, hx3, hx4, hx5, hx6, hx7⟩ := at_T46 hC k (by omega) (by omega)
   cases e_
   simp only [Int.toNat_natCast] at hx0 hx1 hx2 hx3 hx4 hx5 hx6 hx7
   replace hx0 := (mB.cell (World.block_lt_of_cell? w _ hx0)).trans hx0
   replace hx1 := (mB.cell (World.block_lt_of_cell? w _ hx1)).trans hx1
   replace hx2 := (mB.cell (World.block_lt_of_cell? w _ hx2)).trans hx2
   replace hx3 := (mB.cell (World.block_lt_of_cell? w _ hx3)).trans hx3
   replace hx4 := (mB.cell (World.block_lt_of_cell? w _ hx4)).trans hx4
   replace hx5 := (mB.cell (World.block_lt_of_cell? w _ hx5)).trans hx5
   replace hx6 := (mB.cell (World.block_lt_of_cell? w _ hx6)).trans hx6
   replace hx7 := (mB.cell (World.block_lt_of_cell? w _ hx7)).trans hx7
   have hlk : xs[k]? = some (rd_T46 xs (k : Int)) := by simp [rd_T46, List.getD_eq_getElem?_getD, hlt]
   have htk : xs.take (k + 1) = xs.take k ++ [rd_T46 xs (k : Int)] := by rw [List.take_add_one, hlk]; rfl
   have hmem : rd_T46 xs (k : Int) ∈ xs := List.mem_of_getElem? hlk
   generalize rd_T46 xs (k : Int) = x at *
   have HT := Lib.hid htk
   clear htk hlk
   have hbad : okE rate x = false → Hid (faceE par rate xs = 2) := fun h => Lib.hid (by rw [hF.out, if_neg]; intro h2; rw [List.all_eq_true.1 h2 x hmem] at h; cases h)
   clear hmem
   go_wp2_with fail
   clear hx0 hx1 hx2 hx3 hx4 hx5 hx6 hx7
   replace HO := Kd.R_below HO (below_alloc (Below.refl wr.heap.size wr) (.cells #[.int .i64 x.f0, .int .i64 x.f1, .int .i64 x.f2, .int .i64 x.f3, .int .i64 x.f4.f0, .int .i64 x.f4.f1, .int .i64 x.f5.f0, .int .i64 x.f5.f1] 46))
   have hl_1 := blk_lt m1
   have hl_4 := blk_lt m4
   have m6 : Blk (wr.alloc (.cells #[.int .i64 x.f0, .int .i64 x.f1, .int .i64 x.f2, .int .i64 x.f3, .int .i64 x.f4.f0, .int .i64 x.f4.f1, .int .i64 x.f5.f0, .int .i64 x.f5.f1] 46)) (wr.heap.size) #[.int .i64 x.f0, .int .i64 x.f1, .int .i64 x.f2, .int .i64 x.f3, .int .i64 x.f4.f0, .int .i64 x.f4.f1, .int .i64 x.f5.f0, .int .i64 x.f5.f1] 46 := (by have h_ := blk_new wr (.cells #[.int .i64 x.f0, .int .i64 x.f1, .int .i64 x.f2, .int .i64 x.f3, .int .i64 x.f4.f0, .int .i64 x.f4.f1, .int .i64 x.f5.f0, .int .i64 x.f5.f1] 46); first | exact h_ | (simp only [World.size_alloc] at h_; exact h_))
   replace m1 : Blk (wr.alloc (.cells #[.int .i64 x.f0, .int .i64 x.f1, .int .i64 x.f2, .int .i64 x.f3, .int .i64 x.f4.f0, .int .i64 x.f4.f1, .int .i64 x.f5.f0, .int .i64 x.f5.f1] 46)) g1 #[.int .i64 par, .int .i64 rate, .slice (some ad) xs.length c] 30 := (blk_alloc m1 _)
   replace m4 : Blk (wr.alloc (.cells #[.int .i64 x.f0, .int .i64 x.f1, .int .i64 x.f2, .int .i64 x.f3, .int .i64 x.f4.f0, .int .i64 x.f4.f1, .int .i64 x.f5.f0, .int .i64 x.f5.f1] 46)) g4 #[.int .i64 par, .int .i64 rate, v] 109 := (blk_alloc m4 _)
   replace mB : Below w.heap.size w (wr.alloc (.cells #[.int .i64 x.f0, .int .i64 x.f1, .int .i64 x.f2, .int .i64 x.f3, .int .i64 x.f4.f0, .int .i64 x.f4.f1, .int .i64 x.f5.f0, .int .i64 x.f5.f1] 46)) := (below_alloc mB _)
   have hsz_ : w.heap.size ≤ wr.heap.size := hs_wr
   generalize hW_ : (wr.alloc (.cells #[.int .i64 x.f0, .int .i64 x.f1, .int .i64 x.f2, .int .i64 x.f3, .int .i64 x.f4.f0, .int .i64 x.f4.f1, .int .i64 x.f5.f0, .int .i64 x.f5.f1] 46)) = W2 at m1 m4 m6 mB HO ⊢
   clear hW_
   generalize hg6 : wr.heap.size = g6 at m6 ⊢
   have hn_1_6 : g1 ≠ g6 := by omega
   have hn_4_6 : g4 ≠ g6 := by omega
   have hn_6_1 : g6 ≠ g1 := hn_1_6.symm
   have hn_6_4 : g6 ≠ g4 := hn_4_6.symm
   have hG6 : w.heap.size ≤ g6 := by omega
   clear hsz_ hl_1 hl_4
   try clear hg6
   have hs_W2 : w.heap.size ≤ W2.heap.size := mB.size
   have hcon := ckx_any x W2
   (with_reducible refine hcon.mono ?_)
   clear hcon
   rintro e W3 ⟨rfl, hb⟩
   replace HO := Kd.R_below HO hb
   replace m1 := blk_below m1 hb
   replace m4 := blk_below m4 hb
   replace m6 := blk_below m6 hb
   replace mB := below_step mB hb
   clear hb
   have hs_W3 : w.heap.size ≤ W3.heap.size := mB.size
   cases hX : okX x with
   | false =>
    have hE := hbad (by unfold okE; rw [hX]; rfl)
    clear hX hbad
    rw [if_neg (by decide)]
    go_wp2
    go_ret2
    exact newFace_bad hE.out (by decide) mB
   | true =>
    rw [if_pos rfl]
    obtain ⟨c1_0, c1_1, c1_2⟩ := zcs3 m1
    obtain ⟨c6_0, c6_1, c6_2, c6_3, c6_4, c6_5, c6_6, c6_7⟩ := zcs8 m6
    have HX := Lib.hid hX
    clear hX
    go_wp2_with fail
    clear c1_0 c1_1 c1_2 c6_0 c6_1 c6_2 c6_3 c6_4 c6_5 c6_6 c6_7
    have hcon := offset_any x rate W3
    (with_reducible refine hcon.mono ?_)
    clear hcon
    rintro e W4 ⟨rfl, hb⟩
    replace HO := Kd.R_below HO hb
    replace m1 := blk_below m1 hb
    replace m4 := blk_below m4 hb
    replace m6 := blk_below m6 hb
    replace mB := below_step mB hb
    clear hb
    have hs_W4 : w.heap.size ≤ W4.heap.size := mB.size
    have hoe : okE rate x = (true && decide ((offsetI x rate).1 ≤ (offsetI x rate).2) && okS (offsetI x rate).1 (offsetI x rate).2) := by unfold okE; rw [HX.out]
    have han : anchorI rate x = ⟨⟨(offsetI x rate).1, (offsetI x rate).2⟩, x.f3⟩ := rfl
    have HE := Lib.hid hoe
    have HN := Lib.hid han
    clear hoe han
    generalize offsetI x rate = R at *
    obtain ⟨P1, P2⟩ := R
    dsimp only at HE HN ⊢
    by_cases hok : P1 ≤ P2
    case neg =>
     have hE := hbad (by rw [HE.out, decide_eq_false hok]; rfl)
     have hd : decide (P1 ≤ P2) = false := decide_eq_false hok
     clear hok hbad
     go_wp2
     go_ret2
     exact newFace_bad hE.out (by decide) (by repeat (first | exact mB | apply below_alloc))
    case pos =>
     have hd : decide (P1 ≤ P2) = true := decide_eq_true hok
     go_wp2_with fail
     replace HO := Kd.R_below HO (below_alloc (Below.refl W4.heap.size W4) (.cells #[.int .i64 P1, .int .i64 P2] 35))
     have hl_1 := blk_lt m1
     have hl_4 := blk_lt m4
     have hl_6 := blk_lt m6
     have m7 : Blk (W4.alloc (.cells #[.int .i64 P1, .int .i64 P2] 35)) (W4.heap.size) #[.int .i64 P1, .int .i64 P2] 35 := (by have h_ := blk_new W4 (.cells #[.int .i64 P1, .int .i64 P2] 35); first | exact h_ | (simp only [World.size_alloc] at h_; exact h_))
     replace m1 : Blk (W4.alloc (.cells #[.int .i64 P1, .int .i64 P2] 35)) g1 #[.int .i64 par, .int .i64 rate, .slice (some ad) xs.length c] 30 := (blk_alloc m1 _)
     replace m4 : Blk (W4.alloc (.cells #[.int .i64 P1, .int .i64 P2] 35)) g4 #[.int .i64 par, .int .i64 rate, v] 109 := (blk_alloc m4 _)
     replace m6 : Blk (W4.alloc (.cells #[.int .i64 P1, .int .i64 P2] 35)) g6 #[.int .i64 x.f0, .int .i64 x.f1, .int .i64 x.f2, .int .i64 x.f3, .int .i64 x.f4.f0, .int .i64 x.f4.f1, .int .i64 x.f5.f0, .int .i64 x.f5.f1] 46 := (blk_alloc m6 _)
     replace mB : Below w.heap.size w (W4.alloc (.cells #[.int .i64 P1, .int .i64 P2] 35)) := (below_alloc mB _)
     have hsz_ : w.heap.size ≤ W4.heap.size := hs_W4
     generalize hW_ : (W4.alloc (.cells #[.int .i64 P1, .int .i64 P2] 35)) = W5 at m1 m4 m6 m7 mB HO ⊢
     clear hW_
     generalize hg7 : W4.heap.size = g7 at m7 ⊢
     have hn_1_7 : g1 ≠ g7 := by omega
     have hn_4_7 : g4 ≠ g7 := by omega
     have hn_6_7 : g6 ≠ g7 := by omega
     have hn_7_1 : g7 ≠ g1 := hn_1_7.symm
     have hn_7_4 : g7 ≠ g4 := hn_4_7.symm
     have hn_7_6 : g7 ≠ g6 := hn_6_7.symm
     have hG7 : w.heap.size ≤ g7 := by omega
     clear hsz_ hl_1 hl_4 hl_6
     try clear hg7
     have hs_W5 : w.heap.size ≤ W5.heap.size := mB.size
     have hcon := check_any P1 P2 W5
     (with_reducible refine hcon.mono ?_)
     clear hcon
     rintro e W6 ⟨rfl, hb⟩
     replace HO := Kd.R_below HO hb
     replace m1 := blk_below m1 hb
     replace m4 := blk_below m4 hb
     replace m6 := blk_below m6 hb
     replace m7 := blk_below m7 hb
     replace mB := below_step mB hb
     clear hb
     have hs_W6 : w.heap.size ≤ W6.heap.size := mB.size
     cases hS : okS P1 P2 with
     | false =>
      have hE := hbad (by rw [HE.out, hS, Bool.and_false])
      clear hS hbad
      rw [if_neg (by decide)]
      go_wp2
      go_ret2
      exact newFace_bad hE.out (by decide) mB
     | true =>
      have hg := hS
      clear hbad
      have HG : Hid (okE rate x = true) := Lib.hid (by rw [HE.out, hS, hd]; rfl)
      clear hS hg
      rw [if_pos rfl]
      go_wp2
      replace m1 := blk_drew m1
      replace m4 := blk_drew m4
      replace m6 := blk_drew m6
      replace m7 := blk_drew m7
      replace mB := below_drew1 mB
      replace HO := Kd.R_below HO (below_drew1 (Below.refl W6.heap.size W6))
      have hs_ : w.heap.size ≤ W6.drew.heap.size := mB.size
      refine start_ (n := 14) (S := fun w' => w'.cell? ⟨g4, 0, none⟩ = some (.int .i64 par) ∧ w'.cell? ⟨g4, 1, none⟩ = some (.int .i64 rate) ∧ w'.cell? ⟨g4, 2, none⟩ = some (v) ∧ w'.cell? ⟨g6, 0, none⟩ = some (.int .i64 x.f0) ∧ w'.cell? ⟨g6, 1, none⟩ = some (.int .i64 x.f1) ∧ w'.cell? ⟨g6, 2, none⟩ = some (.int .i64 x.f2) ∧ w'.cell? ⟨g6, 3, none⟩ = some (.int .i64 x.f3) ∧ w'.cell? ⟨g6, 4, none⟩ = some (.int .i64 x.f4.f0) ∧ w'.cell? ⟨g6, 5, none⟩ = some (.int .i64 x.f4.f1) ∧ w'.cell? ⟨g6, 6, none⟩ = some (.int .i64 x.f5.f0) ∧ w'.cell? ⟨g6, 7, none⟩ = some (.int .i64 x.f5.f1) ∧ w'.cell? ⟨g7, 0, none⟩ = some (.int .i64 P1) ∧ w'.cell? ⟨g7, 1, none⟩ = some (.int .i64 P2)) (ds := [13]) #[false, false, false, false, false, false, false, false, false, false, false, false, false, false] zq1 rfl rfl ⟨((blk_cell m4 0).trans rfl), ((blk_cell m4 1).trans rfl), ((blk_cell m4 2).trans rfl), ((blk_cell m6 0).trans rfl), ((blk_cell m6 1).trans rfl), ((blk_cell m6 2).trans rfl), ((blk_cell m6 3).trans rfl), ((blk_cell m6 4).trans rfl), ((blk_cell m6 5).trans rfl), ((blk_cell m6 6).trans rfl), ((blk_cell m6 7).trans rfl), ((blk_cell m7 0).trans rfl), ((blk_cell m7 1).trans rfl)⟩ (fun hHeld => ?_)
      generalize hWd : W6.drew = Wd at *
      clear hWd
      refine zpz (i := 0) (N := some 62) zq1 ?_
      refine zpz (i := 1) (N := some 63) zq1 ?_
      refine zpz (i := 2) (N := some 64) zq1 ?_
      refine zpz (i := 3) (N := some 65) zq1 ?_
      refine zpz (i := 6) (N := some 68) zq1 ?_
      refine ztz (i := 4) (N := some 66) zq1 hHeld ?_
      refine ztz (i := 5) (N := some 67) zq1 hHeld ?_
      refine ztz (i := 7) (N := some 69) zq1 hHeld ?_
      refine zpz (i := 8) (N := some 70) zq1 ?_
      refine one_ (i := 9) (N := some 71) #[true, true, true, true, true, true, true, true, true, true, false, false, false, false] rfl rfl zq1 (by decide) (fun K hK => ?_)
      refine value_ (w1 := ?_) (v := ?_) (by rfl) rfl ?_ ?_
      rotate_left 2
      ·go_simp
       constructor
       ·rfl
       ·rfl
      refine hK.out _ _ ⟨((blk_cell (blk_alloc m4 (.cells #[.int .i64 P1, .int .i64 P2, .int .i64 x.f3] 105)) 0).trans rfl), ((blk_cell (blk_alloc m4 (.cells #[.int .i64 P1, .int .i64 P2, .int .i64 x.f3] 105)) 1).trans rfl), ((blk_cell (blk_alloc m4 (.cells #[.int .i64 P1, .int .i64 P2, .int .i64 x.f3] 105)) 2).trans rfl), ((blk_cell (blk_alloc m6 (.cells #[.int .i64 P1, .int .i64 P2, .int .i64 x.f3] 105)) 0).trans rfl), ((blk_cell (blk_alloc m6 (.cells #[.int .i64 P1, .int .i64 P2, .int .i64 x.f3] 105)) 1).trans rfl), ((blk_cell (blk_alloc m6 (.cells #[.int .i64 P1, .int .i64 P2, .int .i64 x.f3] 105)) 2).trans rfl), ((blk_cell (blk_alloc m6 (.cells #[.int .i64 P1, .int .i64 P2, .int .i64 x.f3] 105)) 3).trans rfl), ((blk_cell (blk_alloc m6 (.cells #[.int .i64 P1, .int .i64 P2, .int .i64 x.f3] 105)) 4).trans rfl), ((blk_cell (blk_alloc m6 (.cells #[.int .i64 P1, .int .i64 P2, .int .i64 x.f3] 105)) 5).trans rfl), ((blk_cell (blk_alloc m6 (.cells #[.int .i64 P1, .int .i64 P2, .int .i64 x.f3] 105)) 6).trans rfl), ((blk_cell (blk_alloc m6 (.cells #[.int .i64 P1, .int .i64 P2, .int .i64 x.f3] 105)) 7).trans rfl), ((blk_cell (blk_alloc m7 (.cells #[.int .i64 P1, .int .i64 P2, .int .i64 x.f3] 105)) 0).trans rfl), ((blk_cell (blk_alloc m7 (.cells #[.int .i64 P1, .int .i64 P2, .int .i64 x.f3] 105)) 1).trans rfl)⟩ (fun hHeld => ?_)
      clear hK K
      refine norm_ (by show Act.put _ (some 71) _ = _; simp only [Act.put, List.setIfInBounds_toArray, List.set_cons_zero, List.set_cons_succ, i64_w, i32_w]; rfl) ?_
      refine one_ (i := 10) (N := some 72) #[true, true, true, true, true, true, true, true, true, true, true, false, false, false] rfl rfl zq1 (by decide) (fun K hK => ?_)
      have hne1 := Kd.R_ne HO m1 (by decide)
      have hne4 := Kd.R_ne HO m4 (by decide)
      have hne6 := Kd.R_ne HO m6 (by decide)
      have hne7 := Kd.R_ne HO m7 (by decide)
      refine Kd.R_append_step k105 (w0 := w) w.heap.size (by rfl) (.tmp 66) (.tmp 71) 107 105 (.agg #[.int .i64 0, .int .i64 0, .int .i64 0]) 24 rfl Try.underlying107 HI.out rfl (by decide) (by decide) v ((xs.take k).map (anchorI rate)) ⟨⟨P1, P2⟩, x.f3⟩ [.int .i64 P1, .int .i64 P2, .int .i64 x.f3] (fun _ => True) (fun _ => False) rfl rfl (k105_mkM _ _ _ _) (fun _ h => h.elim) (fun _ _ => trivial) HO mB hs_ (by rw [List.length_map, List.length_take]; omega) ?_
      intro v1 w1 HO1 hB1 hgr hat
      obtain ⟨A1_, c1_, rfl⟩ := Kd.R_slice HO1
      replace m1 := Go.Proofs.YtcjdhajdoikojaaW.PrintWords.blk_grown m1 hgr hne1
      replace m4 := Go.Proofs.YtcjdhajdoikojaaW.PrintWords.blk_grown m4 hgr hne4
      replace m6 := Go.Proofs.YtcjdhajdoikojaaW.PrintWords.blk_grown m6 hgr hne6
      replace m7 := Go.Proofs.YtcjdhajdoikojaaW.PrintWords.blk_grown m7 hgr hne7
      clear hgr hat HO hne1 hne4 hne6 hne7
      refine hK.out _ _ ⟨((blk_cell m4 0).trans rfl), ((blk_cell m4 1).trans rfl), ((blk_cell m4 2).trans rfl), ((blk_cell m6 0).trans rfl), ((blk_cell m6 1).trans rfl), ((blk_cell m6 2).trans rfl), ((blk_cell m6 3).trans rfl), ((blk_cell m6 4).trans rfl), ((blk_cell m6 5).trans rfl), ((blk_cell m6 6).trans rfl), ((blk_cell m6 7).trans rfl), ((blk_cell m7 0).trans rfl), ((blk_cell m7 1).trans rfl)⟩ (fun hHeld => ?_)
      clear hK K
      refine norm_ (by show Act.put _ (some 72) _ = _; simp only [Act.put, List.setIfInBounds_toArray, List.set_cons_zero, List.set_cons_succ, i64_w, i32_w]; rfl) ?_
      refine zpz (i := 11) (N := some 73) zq1 ?_
      refine zpz (i := 12) (N := some 74) zq1 ?_
      refine last_ (i := 13) (N := none) #[true, true, true, true, true, true, true, true, true, true, true, true, true, true] rfl rfl zq1 (by decide) (fun K hK => ?_)
      have hf2 := blk_frozen m4 2
      have hc2 := (blk_cell m4 2).trans rfl
      refine skip_ (w1 := ?_) (by rfl) rfl ?_ ?_
      rotate_left
      ·go_simp
       rfl
      refine hK.out _ _ ?_
      clear hK K
      refine done_ zq1 ?_
      go_wp2
      go_roundw
      case rel =>
       have hl1 : (List.map (anchorI rate) (List.take k xs) ++ [(⟨⟨P1, P2⟩, x.f3⟩ : S105)]).length = k + 1 := by rw [List.length_append, List.length_map, List.length_take]; simp; omega
       rw [hl1] at HO1
       exact ⟨k + 1, _, by omega, by simp, Lib.hid (by rw [HT.out, List.all_append, HA.out, List.all_cons, HG.out]; rfl), blk_far (p := ⟨g4, 2, none⟩) m1 hn_1_4 _, blk_put m4 2 _ rfl, by rw [HT.out, List.map_append, List.map_singleton, HN.out]; exact Kd.R_set HO1 m4 (fun q hq => by obtain rfl := List.mem_singleton.1 (show q ∈ [105] from hq); decide) 2 _, hB1.setCell (p := ⟨g4, 2, none⟩) hG4 _⟩
      case measure => simp [intOf]; omega
  ·obtain rfl : k = xs.length := by omega
   go_wp2
   go_ret2
   have hE : faceE par rate xs = 0 := by rw [hF.out, if_pos]; rw [← HA.out, List.take_length]
   rw [List.take_length] at HO
   exact ⟨_, by rw [hE]; rfl, mB, .inl ⟨hE, g4, rfl, hG4, v, _, m4, HO⟩⟩
end Go.Proofs.Ytcjdhajdoikojaa.Clk
end
section
/- A sound clock, and a house, as the program makes them, or the errors. -/
namespace Go.Proofs.Ytcjdhajdoikojaa.Clk
open Go.RowKit Go.Shelf Go.Proofs.YtcjdhajdoikojaaW.PrintWords Go.Proofs.YtcjdhajdoikojaaW.PrintLast Go.Proofs.YtcjdhajdoikojaaW.PrintMore Go.Proofs.Ytcjdhajdoikojaa.Pr Go.Proofs.YtcjdhajdoikojaaW.Round
set_option linter.unusedVariables false
set_option linter.unusedSimpArgs false

/-- The error of a clock that must be sound; between comes another error. -/
def soundE (par rate : Int) (xs : List S46) (between : Int) : Int :=
 if faceE par rate xs ≠ 0 then faceE par rate xs else if between ≠ 0 then between else if (findCon rate (xs.map (anchorI rate))).isSome then 5 else 0
def NewSoundPost (par rate : Int) (xs : List S46) (between : Int) (w : World) (e : Ending) (w' : World) : Prop :=
 ∃ ptr, e = .returned (.tuple #[.pointer ptr, .int .i64 (soundE par rate xs between)]) ∧ Below w.heap.size w w' ∧ ((soundE par rate xs between = 0 ∧ ∃ g, ptr = some ⟨g, 0, none⟩ ∧ w.heap.size ≤ g ∧ FaceR w' g par rate (xs.map (anchorI rate))) ∨ (soundE par rate xs between ≠ 0 ∧ ptr = none))
theorem newSound_bad {par rate : Int} {xs : List S46} {between : Int} {w w' : World} {c : Int} (h : soundE par rate xs between = c) (hc : c ≠ 0) (hb : Below w.heap.size w w') : NewSoundPost par rate xs between w (.returned (.tuple #[.pointer none, .int .i64 c])) w' := ⟨none, by rw [h], hb, .inr ⟨by rw [h]; exact hc, rfl⟩⟩
theorem faceE_len {par rate : Int} {xs : List S46} (h : faceE par rate xs = 0) : xs.length ≤ 64 := by
 unfold faceE at h
 by_cases hl : xs.length < 1 ∨ xs.length > 64
 ·rw [if_pos hl] at h
  cases h
 ·omega

set_option maxRecDepth 100000 in
set_option maxHeartbeats 4000000 in
theorem newSound_any (par rate : Int) (A : Option Addr) (c : Nat) (xs : List S46) (between : Int) (w : World) (hC : Kd.C k46 w A xs.length xs) (hc : xs.length ≤ c) :
  Calls Try.prog 56 #[.agg #[.int .i64 par, .int .i64 rate, .slice A xs.length c], .int .i64 between] w (NewSoundPost par rate xs between w) := by
 have hu30 := Try.underlying30
 have hu81 := Try.underlying81
 go_enter Try.func56, Try.ntmps56
 go_wp2_with fail
 have m1 : Blk (w.alloc (.cells #[.int .i64 par, .int .i64 rate, .slice A xs.length c] 30)) (w.heap.size) #[.int .i64 par, .int .i64 rate, .slice A xs.length c] 30 := zq28
 have mB : Below w.heap.size w (w.alloc (.cells #[.int .i64 par, .int .i64 rate, .slice A xs.length c] 30)) := (below_alloc (Below.refl w.heap.size w) _)
 have hsz_ : w.heap.size ≤ w.heap.size := Nat.le_refl _
 generalize hW_ : (w.alloc (.cells #[.int .i64 par, .int .i64 rate, .slice A xs.length c] 30)) = W1 at m1 mB ⊢
 clear hW_
 generalize hg1 : w.heap.size = g1 at m1 ⊢
 have hG1 : w.heap.size ≤ g1 := by omega
 clear hsz_
 try clear hg1
 have hs_W1 : w.heap.size ≤ W1.heap.size := mB.size
 have hcon := newFace_any par rate A c xs W1 (Kd.C_below hC mB) hc
 (with_reducible refine hcon.mono ?_)
 clear hcon
 rintro e W2 ⟨ptr, rfl, hb, ⟨h0, g, rfl, hg, hF⟩ | ⟨h0, rfl⟩⟩
 case inr =>
  have hE : soundE par rate xs between = faceE par rate xs := by unfold soundE; rw [if_pos h0]
  replace mB := below_step mB hb
  clear hb
  have HE := Lib.hid hE
  clear hE
  generalize faceE par rate xs = E0 at *
  have hd : (E0 == 0) = false := beq_eq_false_iff_ne.2 h0
  have hd2 : (E0 != 0) = true := by rw [bne, hd]; rfl
  have h0_ := Lib.hid h0
  clear h0
  go_wp2
  go_ret2
  exact newSound_bad HE.out h0_.out mB
 case inl =>
  rw [h0]
  replace mB := below_step mB hb
  clear hb
  have hlen := faceE_len h0
  have hg0 : w.heap.size ≤ g := Nat.le_trans (m := W1.heap.size) (by assumption) hg
  by_cases hbt : between = 0
  case neg =>
   have hE : Hid (soundE par rate xs between = between) := Lib.hid (by unfold soundE; rw [if_neg (by simp [h0]), if_pos hbt])
   have hd : (between == 0) = false := beq_eq_false_iff_ne.2 hbt
   have hd2 : (between != 0) = true := by rw [bne, hd]; rfl
   have h1 := Lib.hid hbt
   clear h0 hbt
   go_wp2
   go_ret2
   exact newSound_bad hE.out h1.out mB
  case pos =>
   cases hbt
   go_wp2_with fail
   have hcon := cont_any g par rate (xs.map (anchorI rate)) (by rw [List.length_map]; omega) W2 hF.at
   (with_reducible refine hcon.mono ?_)
   clear hcon
   rintro e W3 ⟨rfl, hb⟩
   replace hF := hF.below hb
   replace mB := below_step mB hb
   clear hb
   have hS : Hid (soundE par rate xs 0 = if (findCon rate (xs.map (anchorI rate))).isSome then 5 else 0) := Lib.hid (by unfold soundE; rw [if_neg (by simp [h0]), if_neg (by simp)])
   clear h0
   generalize findCon rate (xs.map (anchorI rate)) = R at hS ⊢
   have hs_ : w.heap.size ≤ W3.heap.size := mB.size
   cases R with
   | some q =>
    go_wp2
    go_ret2
    exact newSound_bad (by rw [hS.out]; rfl) (by decide) zq29
   | none =>
    go_wp2
    go_ret2
    exact ⟨_, by rw [hS.out]; rfl, zq29, .inl ⟨by rw [hS.out]; rfl, g, rfl, hg0, hF.below zq30⟩⟩
end Go.Proofs.Ytcjdhajdoikojaa.Clk
end
section
/- A house, as the program makes it, or the error. -/
namespace Go.Proofs.Ytcjdhajdoikojaa.Clk
open Go.RowKit Go.Shelf Go.Proofs.YtcjdhajdoikojaaW.PrintWords Go.Proofs.YtcjdhajdoikojaaW.PrintLast Go.Proofs.YtcjdhajdoikojaaW.PrintMore Go.Proofs.Ytcjdhajdoikojaa.Pr Go.Proofs.YtcjdhajdoikojaaW.Round
set_option linter.unusedVariables false
set_option linter.unusedSimpArgs false

/-- The kind of pointers to whole blocks. -/
def kptr : Kd Nat := Kd.scalar (fun g => .pointer (some ⟨g, 0, none⟩)) (fun _ => rfl)
theorem info99 : (Try.prog.info? 99).map (fun i => (i.zero, i.size, i.bytes)) = some (some (.pointer none), 1, 8) := by kernel_rfl
/-- A clock of a house, in memory. -/
def FaceC (W : World) (g : Nat) (c : S30) : Prop := FaceR W g c.f0 c.f1 (c.f2.map (anchorI c.f1))
theorem FaceC.below {W W1 : World} {g : Nat} {c : S30} (h : FaceC W g c) (hb : Below W.heap.size W W1) : FaceC W1 g c := FaceR.below h hb
theorem FaceC.grown {W W1 : World} {g : Nat} {c : S30} {base : Nat} {v : Value} {gs : List Nat} (h : FaceC W g c) (hv : kptr.R 99 W base (fun _ => True) v gs) (hg : W.grownBy W1 v.ownBlock) : FaceC W1 g c := by
 obtain ⟨u, b, h1, h2⟩ := h
 exact ⟨u, b, Go.Proofs.YtcjdhajdoikojaaW.PrintWords.blk_grown h1 hg (Kd.R_ne hv h1 (by decide)), Kd.R_over' h2 (Kd.R_typed hv) (fun q hq => by obtain rfl := List.mem_singleton.1 (show q ∈ [105] from hq); decide) hg⟩
/-- A house in memory. -/
def HouseAt (W : World) (base : Nat) (v : Value) (cs : List S30) : Prop := ∃ gs : List Nat, kptr.R 99 W base (fun _ => True) v gs ∧ gs.length = cs.length ∧ ∀ (j g : Nat) (c : S30), gs[j]? = some g → cs[j]? = some c → FaceC W g c
theorem HouseAt.nil (W : World) (base : Nat) : HouseAt W base (.slice none 0 0) [] := ⟨[], Kd.R_nil _ _ _ _ _, rfl, fun j g c h _ => by simp at h⟩
theorem HouseAt.below {W W1 : World} {base : Nat} {v : Value} {cs : List S30} (h : HouseAt W base v cs) (hb : Below W.heap.size W W1) : HouseAt W1 base v cs := by
 obtain ⟨gs, h1, h2, h3⟩ := h
 exact ⟨gs, Kd.R_below h1 hb, h2, fun j g c hj hc => (h3 j g c hj hc).below hb⟩
theorem HouseAt.slice {W : World} {base : Nat} {v : Value} {cs : List S30} (h : HouseAt W base v cs) : ∃ A c, v = .slice A cs.length c := by
 obtain ⟨gs, h1, h2, h3⟩ := h
 rw [← h2]
 exact Kd.R_slice h1
theorem HouseAt.get {W : World} {base : Nat} {A : Option Addr} {m cap : Nat} {cs : List S30} (h : HouseAt W base (.slice A m cap) cs) (i : Int) (h0 : 0 ≤ i) (h1 : i < cs.length) :
  ∃ ad g, A = some ad ∧ W.cell? (ad.add i.toNat) = some (.pointer (some ⟨g, 0, none⟩)) ∧ FaceC W g (rd_T30 cs i) := by
 obtain ⟨gs, hR, h2, h3⟩ := h
 obtain ⟨A', c', e, hl, hC⟩ := Kd.R_reads hR
 cases e
 obtain ⟨ad, cl, e1, _, hK, hc⟩ := Kd.C_get hC 0 i h0 (by omega)
 have hlt : i.toNat < gs.length := by omega
 have hg : gs[i.toNat]? = some (gs.getD i.toNat 0) := by rw [List.getD_eq_getElem?_getD, List.getElem?_eq_getElem hlt]; rfl
 have hcs : cs[i.toNat]? = some (rd_T30 cs i) := by simp [rd_T30, List.getD_eq_getElem?_getD, show i.toNat < cs.length by omega]
 have hx := hc 0 (.pointer (some ⟨gs.getD i.toNat 0, 0, none⟩)) (by rw [show cl = _ from hK]; rfl)
 rw [show kptr.sz = 1 from rfl, Nat.mul_one, Nat.add_zero] at hx
 exact ⟨ad, _, e1, hx, h3 _ _ _ hg hcs⟩
theorem HouseAt.snoc {W W1 : World} {base g : Nat} {v v1 : Value} {gs : List Nat} {cs : List S30} {c : S30} (hv : kptr.R 99 W base (fun _ => True) v gs) (hl : gs.length = cs.length) (hf : ∀ (j g : Nat) (c : S30), gs[j]? = some g → cs[j]? = some c → FaceC W g c) (hc : FaceC W g c)
  (h1 : kptr.R 99 W1 base (fun _ => True) v1 (gs ++ [g])) (hg : W.grownBy W1 v.ownBlock) : HouseAt W1 base v1 (cs ++ [c]) := by
 refine ⟨_, h1, by simp [hl], fun j g' c' hj hc' => ?_⟩
 by_cases hlt : j < gs.length
 ·rw [List.getElem?_append_left hlt] at hj
  rw [List.getElem?_append_left (by omega)] at hc'
  exact (hf j g' c' hj hc').grown hv hg
 ·have hj' := hj
  rw [List.getElem?_append_right (by omega), List.getElem?_singleton] at hj
  rw [List.getElem?_append_right (by omega), List.getElem?_singleton] at hc'
  by_cases e : j - gs.length = 0
  ·rw [if_pos e] at hj
   rw [if_pos (by omega)] at hc'
   cases hj
   cases hc'
   exact hc.grown hv hg
  ·rw [if_neg e] at hj
   cases hj

/-- The errors of a house's clocks, one by one. -/
def cE (c : S30) : Int := faceE c.f0 c.f1 c.f2
def firstErr (cs : List S30) : Int := ((cs.map cE).find? fun e => decide (e ≠ 0)).getD 0
def parOK (cs : List S30) : Bool := (List.range cs.length).all fun i => decide ((rd_T30 cs i).f0 < (i : Int))
def badC (c : S30) : Bool := (findCon c.f1 (c.f2.map (anchorI c.f1))).isSome
def houseE (cs : List S30) : Int := if cs.length < 1 ∨ cs.length > 32 then 6 else if firstErr cs ≠ 0 then firstErr cs else if parOK cs = false then 2 else if cs.any badC then 5 else 0
theorem firstErr_at {cs : List S30} {k : Nat} {c : S30} (hc : cs[k]? = some c) (h0 : (cs.take k).all (fun x => decide (cE x = 0)) = true) (h : cE c ≠ 0) : firstErr cs = cE c := by
 unfold firstErr
 have hlt : k < cs.length := (List.getElem?_eq_some_iff.1 hc).1
 have e : cs = cs.take k ++ (c :: cs.drop (k + 1)) := by
  conv => lhs; rw [← List.take_append_drop k cs, List.drop_eq_getElem_cons hlt]
  rw [(List.getElem?_eq_some_iff.1 hc).2]
 have hn : ((cs.take k).map cE).find? (fun e => decide (e ≠ 0)) = none := by
  rw [List.find?_eq_none]
  intro x hx
  obtain ⟨y, hy, rfl⟩ := List.mem_map.1 hx
  have := List.all_eq_true.1 h0 y hy
  simpa using this
 rw [e, List.map_append, List.find?_append, hn]
 simp [h]
theorem firstErr_all {cs : List S30} (h0 : cs.all (fun x => decide (cE x = 0)) = true) : firstErr cs = 0 := by
 unfold firstErr
 have hn : (cs.map cE).find? (fun e => decide (e ≠ 0)) = none := by
  rw [List.find?_eq_none]
  intro x hx
  obtain ⟨y, hy, rfl⟩ := List.mem_map.1 hx
  have := List.all_eq_true.1 h0 y hy
  simpa using this
 rw [hn]
 rfl
def NewHousePost (cs : List S30) (w : World) (e : Ending) (w' : World) : Prop :=
 ∃ v, e = .returned (.tuple #[v, .int .i64 (houseE cs)]) ∧ Below w.heap.size w w' ∧ ((houseE cs = 0 ∧ HouseAt w' w.heap.size v cs) ∨ (houseE cs ≠ 0 ∧ v = .slice none 0 0))
theorem newHouse_bad {cs : List S30} {w w' : World} {c : Int} (h : houseE cs = c) (hc : c ≠ 0) (hb : Below w.heap.size w w') : NewHousePost cs w (.returned (.tuple #[.slice none 0 0, .int .i64 c])) w' := ⟨_, by rw [h], hb, .inr ⟨by rw [h]; exact hc, rfl⟩⟩

set_option maxRecDepth 100000 in
set_option maxHeartbeats 4000000 in
theorem newHouse_any (A : Option Addr) (c : Nat) (cs : List S30) (w : World) (hC : Kd.C k30 w A cs.length cs) (hc : cs.length ≤ c) :
  Calls Try.prog 54 #[.slice A cs.length c] w (NewHousePost cs w) := by
 have hu30 := Try.underlying30
 have hu81 := Try.underlying81
 have hu109 := Try.underlying109
 by_cases h1 : cs.length < 1
 ·have hE : Hid (houseE cs = 6) := Lib.hid (by unfold houseE; rw [if_pos (.inl h1)])
  have d1 : decide ((cs.length : Int) < 1) = true := decide_eq_true (by omega)
  have d2 : decide (cs.length < 1) = true := decide_eq_true (by omega)
  go_enter Try.func54, Try.ntmps54
  go_wp2
  go_ret2
  exact newHouse_bad hE.out (by decide) (Below.refl _ _)
 have d1 : decide ((cs.length : Int) < 1) = false := decide_eq_false (by omega)
 have d2 : decide (cs.length < 1) = false := decide_eq_false (by omega)
 by_cases h2 : cs.length > 32
 ·have hE : Hid (houseE cs = 6) := Lib.hid (by unfold houseE; rw [if_pos (.inr h2)])
  have d3 : decide ((32 : Int) < (cs.length : Int)) = true := decide_eq_true (by omega)
  have d4 : decide (32 < cs.length) = true := decide_eq_true (by omega)
  go_enter Try.func54, Try.ntmps54
  go_wp2
  go_ret2
  exact newHouse_bad hE.out (by decide) (Below.refl _ _)
 have d3 : decide ((32 : Int) < (cs.length : Int)) = false := decide_eq_false (by omega)
 have d4 : decide (32 < cs.length) = false := decide_eq_false (by omega)
 have hH0 : houseE cs = if firstErr cs ≠ 0 then firstErr cs else if parOK cs = false then 2 else if cs.any badC then 5 else 0 := by unfold houseE; rw [if_neg (by omega)]
 have hH := Lib.hid hH0
 have hL : cs.length ≤ 32 := by omega
 have hL1 : 1 ≤ cs.length := by omega
 clear hH0 h1 h2
 go_enter Try.func54, Try.ntmps54
 go_wp2
 go_loopw [4, 25] (fun v i wr => ∃ (k : Nat) (v_ : Value), v_ = v ∧ k ≤ cs.length ∧ i = .int .i64 k ∧ Hid ((cs.take k).all (fun x => decide (cE x = 0)) = true) ∧ HouseAt wr w.heap.size v (cs.take k) ∧ Below w.heap.size w wr) (fun _ i _ => cs.length - (intOf i).toNat)
 case atStart => exact ⟨0, _, rfl, Nat.zero_le _, rfl, Lib.hid (by simp), HouseAt.nil _ _, Below.refl _ _⟩
 case round =>
  obtain ⟨k, v_, rfl, hk, rfl, HA, HH, mB⟩ := hrel
  by_cases hlt : k < cs.length
  ·obtain ⟨ad_, A2, c2, e_, hx0, hx1, hx2, hl2, hC2⟩ := at_T30 hC k (by omega) (by omega)
   cases e_
   simp only [Int.toNat_natCast] at hx0 hx1 hx2 hl2 hC2
   replace hx0 := (mB.cell (World.block_lt_of_cell? w _ hx0)).trans hx0
   replace hx1 := (mB.cell (World.block_lt_of_cell? w _ hx1)).trans hx1
   replace hx2 := (mB.cell (World.block_lt_of_cell? w _ hx2)).trans hx2
   have hlk : cs[k]? = some (rd_T30 cs (k : Int)) := by simp [rd_T30, List.getD_eq_getElem?_getD, hlt]
   have htk : cs.take (k + 1) = cs.take k ++ [rd_T30 cs (k : Int)] := by rw [List.take_add_one, hlk]; rfl
   generalize rd_T30 cs (k : Int) = x at *
   have HT := Lib.hid htk
   have HK := Lib.hid hlk
   clear htk hlk
   have hs_wr : w.heap.size ≤ wr.heap.size := mB.size
   go_wp2_with fail
   clear hx0 hx1 hx2
   replace HH := HH.below (below_alloc (Below.refl wr.heap.size wr) (.cells #[.int .i64 x.f0, .int .i64 x.f1, .slice A2 x.f2.length c2] 30))
   have m6 : Blk (wr.alloc (.cells #[.int .i64 x.f0, .int .i64 x.f1, .slice A2 x.f2.length c2] 30)) (wr.heap.size) #[.int .i64 x.f0, .int .i64 x.f1, .slice A2 x.f2.length c2] 30 := (by have h_ := blk_new wr (.cells #[.int .i64 x.f0, .int .i64 x.f1, .slice A2 x.f2.length c2] 30); first | exact h_ | (simp only [World.size_alloc] at h_; exact h_))
   replace mB : Below w.heap.size w (wr.alloc (.cells #[.int .i64 x.f0, .int .i64 x.f1, .slice A2 x.f2.length c2] 30)) := (below_alloc mB _)
   have hsz_ : w.heap.size ≤ wr.heap.size := hs_wr
   generalize hW_ : (wr.alloc (.cells #[.int .i64 x.f0, .int .i64 x.f1, .slice A2 x.f2.length c2] 30)) = W2 at m6 mB HH ⊢
   clear hW_
   generalize hg6 : wr.heap.size = g6 at m6 ⊢
   have hG6 : w.heap.size ≤ g6 := by omega
   clear hsz_
   try clear hg6
   have hs_W2 : w.heap.size ≤ W2.heap.size := mB.size
   have hcon := newFace_any x.f0 x.f1 A2 c2 x.f2 W2 (Kd.C_below hC2 mB) hl2
   (with_reducible refine hcon.mono ?_)
   clear hcon
   rintro e W3 ⟨ptr, rfl, hb, ⟨h0, g, rfl, hg, hF⟩ | ⟨h0, rfl⟩⟩
   case inr =>
    have hE : houseE cs = cE x := by rw [hH.out, firstErr_at HK.out HA.out h0, if_pos (show cE x ≠ 0 from h0)]
    replace mB := below_step mB hb
    clear hb
    have HE := Lib.hid (show houseE cs = faceE x.f0 x.f1 x.f2 from hE)
    clear hE
    generalize faceE x.f0 x.f1 x.f2 = E0 at *
    have hd : (E0 == 0) = false := beq_eq_false_iff_ne.2 h0
    have hd2 : (E0 != 0) = true := by rw [bne, hd]; rfl
    have h0_ := Lib.hid h0
    clear h0
    go_wp2
    go_ret2
    exact newHouse_bad HE.out h0_.out mB
   case inl =>
    rw [h0]
    replace HH := HH.below hb
    replace mB := below_step mB hb
    clear hb m6
    have HZ : Hid (cE x = 0) := Lib.hid h0
    clear h0
    obtain ⟨gs, HO, hgl, hgf⟩ := HH
    have hlk : (cs.take k).length = k := by rw [List.length_take]; omega
    have hLx : gs.length ≤ 32 := by omega
    have HL := Lib.hid hlk
    clear hlk
    have hs_ : w.heap.size ≤ W3.heap.size := mB.size
    go_wp2_with (first | ((with_reducible refine gate_builtin (b := .append) (xs := #[.tmp 37, .tmp 39]) rfl ?_); (try (refine gate_guard (by rfl) ?_; dsimp only)); at_builtin; go_loud (refine Kd.R_append kptr (w0 := w) w.heap.size rfl (.tmp 37) (.tmp 39) 94 99 (.pointer none) 8 rfl Try.underlying94 info99 rfl (by decide) (by decide) v_ gs g [.pointer (some ⟨g, 0, none⟩)] (fun _ => True) (fun _ => False) rfl rfl ?aP (fun _ hk => hk.elim) ?aF ?aO ?aB ?aS ?aL ?_); (case aP => exact rfl); (case aF => exact (fun _ _ => trivial)); (case aO => exact HO); (case aB => exact mB); (case aS => exact hs_); (case aL => omega); intro v1 w1 HO1 hB1 hgr hat))
    go_roundw
    case rel => exact ⟨k + 1, _, rfl, by omega, by simp, Lib.hid (by rw [HT.out, List.all_append, HA.out, List.all_cons, HZ.out]; rfl), by rw [HT.out]; exact HouseAt.snoc HO hgl hgf hF HO1 hgr, hB1⟩
    case measure => simp [intOf]; omega
  ·obtain rfl : k = cs.length := by omega
   rw [List.take_length] at HH HA
   obtain ⟨A3, c3, rfl⟩ := HH.slice
   have HF0 := firstErr_all HA.out
   have hH2 : houseE cs = if parOK cs = false then 2 else if cs.any badC then 5 else 0 := by rw [hH.out, HF0, if_neg (by decide)]
   have hHb := Lib.hid hH2
   have hz : ∀ x ∈ cs, x.f2.length ≤ 64 := fun x hx => faceE_len (of_decide_eq_true (List.all_eq_true.1 HA.out x hx))
   have HZ := Lib.hid hz
   clear hz hH2 HF0 hH HA
   go_wp2
   go_loopw [44] (fun i wr2 => wr2 = wr ∧ ∃ (k : Nat), k ≤ cs.length ∧ i = .int .i64 k ∧ Hid (∀ j : Nat, j < k → (rd_T30 cs j).f0 < (j : Int))) (fun i _ => cs.length - (intOf i).toNat)
   case atStart => exact ⟨rfl, 0, Nat.zero_le _, rfl, Lib.hid (fun j hj => absurd hj (Nat.not_lt_zero j))⟩
   case round =>
    obtain ⟨rfl, k, hk, rfl, HP⟩ := hrel
    by_cases hlt : k < cs.length
    ·obtain ⟨ad, g, e_, hx, hf⟩ := HH.get k (by omega) (by omega)
     cases e_
     obtain ⟨u_, b_, hblk, _⟩ := hf
     simp only [Int.toNat_natCast] at hx
     have cg := (blk_cell hblk 0).trans rfl
     clear hblk
     by_cases hpar : (rd_T30 cs (k : Int)).f0 < (k : Int)
     ·have dp : decide ((rd_T30 cs (k : Int)).f0 ≥ (k : Int)) = false := decide_eq_false (by omega)
      have dp2 : decide ((k : Int) ≤ (rd_T30 cs (k : Int)).f0) = false := decide_eq_false (by omega)
      have HQ := Lib.hid hpar
      clear hpar
      go_wp2
      go_roundw
      case rel => exact ⟨trivial, k + 1, by omega, by simp, Lib.hid (fun j hj => by
       by_cases e : j = k
       ·subst e
        exact HQ.out
       ·exact HP.out j (by omega))⟩
      case measure => simp [intOf]; omega
     ·have dp : decide ((rd_T30 cs (k : Int)).f0 ≥ (k : Int)) = true := decide_eq_true (by omega)
      have dp2 : decide ((k : Int) ≤ (rd_T30 cs (k : Int)).f0) = true := decide_eq_true (by omega)
      have hpo : parOK cs = false := by
       rw [parOK, List.all_eq_false]
       exact ⟨k, List.mem_range.2 hlt, by rw [decide_eq_true_iff]; exact hpar⟩
      have hE : Hid (houseE cs = 2) := Lib.hid (by rw [hHb.out, if_pos hpo])
      clear hpar hpo
      go_wp2
      go_ret2
      exact newHouse_bad hE.out (by decide) mB
    ·obtain rfl : k = cs.length := by omega
     have hpo : parOK cs = true := by
      rw [parOK, List.all_eq_true]
      intro j hj
      exact decide_eq_true (HP.out j (List.mem_range.1 hj))
     have hH2 : houseE cs = if cs.any badC then 5 else 0 := by rw [hHb.out, if_neg (by rw [hpo]; decide)]
     have hHd := Lib.hid hH2
     clear hpo hH2 hHb HP
     go_wp2
     go_loopw [58] (fun i wr3 => ∃ (k : Nat), k ≤ cs.length ∧ i = .int .i64 k ∧ Hid ((cs.take k).any badC = false) ∧ HouseAt wr3 w.heap.size (.slice A3 cs.length c3) cs ∧ Below w.heap.size w wr3) (fun i _ => cs.length - (intOf i).toNat)
     case atStart => exact ⟨0, Nat.zero_le _, rfl, Lib.hid (by simp), HH, mB⟩
     case round =>
      clear HH mB
      obtain ⟨k, hk, rfl, HA, HH, mB⟩ := hrel
      by_cases hlt : k < cs.length
      ·obtain ⟨ad, g, e_, hx, hf⟩ := HH.get k (by omega) (by omega)
       cases e_
       simp only [Int.toNat_natCast] at hx
       have hlk : cs[k]? = some (rd_T30 cs (k : Int)) := by simp [rd_T30, List.getD_eq_getElem?_getD, hlt]
       have htk : cs.take (k + 1) = cs.take k ++ [rd_T30 cs (k : Int)] := by rw [List.take_add_one, hlk]; rfl
       have hmem : rd_T30 cs (k : Int) ∈ cs := List.mem_of_getElem? hlk
       have hzl := HZ.out _ hmem
       generalize rd_T30 cs (k : Int) = x at *
       have HT := Lib.hid htk
       have HM := Lib.hid hmem
       clear htk hlk hmem
       go_wp2_with fail
       have hcon := cont_any g x.f0 x.f1 (x.f2.map (anchorI x.f1)) (by rw [List.length_map]; omega) _ hf.at
       (with_reducible refine hcon.mono ?_)
       clear hcon
       rintro e W4 ⟨rfl, hb⟩
       replace HH := HH.below hb
       replace mB := below_step mB hb
       clear hb hx hf
       have hs_ : w.heap.size ≤ W4.heap.size := mB.size
       cases hR : findCon x.f1 (x.f2.map (anchorI x.f1)) with
       | some q =>
        have hE : Hid (houseE cs = 5) := Lib.hid (by rw [hHd.out, if_pos]; exact List.any_eq_true.2 ⟨x, HM.out, by rw [badC, hR]; rfl⟩)
        clear hR
        go_wp2
        go_ret2
        exact newHouse_bad hE.out (by decide) zq29
       | none =>
        have hg : Hid (badC x = false) := Lib.hid (by rw [badC, hR]; rfl)
        clear hR
        go_wp2
        go_roundw
        case rel => exact ⟨k + 1, by omega, by simp, Lib.hid (by rw [HT.out, List.any_append, HA.out, List.any_cons, hg.out]; rfl), HH.below zq30, zq29⟩
        case measure => simp [intOf]; omega
      ·obtain rfl : k = cs.length := by omega
       rw [List.take_length] at HA
       have hE : houseE cs = 0 := by rw [hHd.out, HA.out]; rfl
       have HE := Lib.hid hE
       clear hE
       go_wp2
       go_ret2
       exact ⟨_, zq31, mB, .inl ⟨HE.out, HH⟩⟩
end Go.Proofs.Ytcjdhajdoikojaa.Clk
end
