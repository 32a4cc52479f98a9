/- Part 11 of the proof of ClockOrder: what the functions compute. No condition. -/
import Derived.Test.YtcjdhajdoikojaaCoClockOrder3
import Derived.Test.YtcjdhajdoikojaaCoClockOrder9
import Derived.Test.YtcjdhajdoikojaaCoClockOrder10
set_option linter.unusedVariables false
set_option linter.unusedSimpArgs false
section
/- Are spans time spans: what the program answers. -/
namespace Go.Proofs.Ytcjdhajdoikojaa.Clk
open Go.RowKit Go.Shelf Go.Proofs.YtcjdhajdoikojaaW.PrintWords Go.Proofs.YtcjdhajdoikojaaW.PrintLast Go.Proofs.YtcjdhajdoikojaaW.PrintMore Go.Proofs.Ytcjdhajdoikojaa.Pr Go.Proofs.YtcjdhajdoikojaaW.Round
set_option linter.unusedVariables false
set_option linter.unusedSimpArgs false

def badS (a : S35) : Bool := decide (a.f1 < a.f0)
set_option maxHeartbeats 1000000 in
theorem chk1_any (a : S35) (w : World) : Calls Try.prog 100 #[.agg #[.int .i64 a.f0, .int .i64 a.f1]] w (RetB (.bool (badS a)) w) := by
 have hu35 := Try.underlying35
 go_enter Try.func100, Try.ntmps100
 go_wp2
 go_ret
 exact ⟨by rfl, zq30⟩
/-- The first bad span, or -1. -/
def idxI (l : List S35) : Int := match l.findIdx? badS with | none => -1 | some i => i
theorem findIdx_at {l : List S35} {k : Nat} {x : S35} (hk : l[k]? = some x) (h0 : (l.take k).any badS = false) (hx : badS x = true) : l.findIdx? badS = some k := by
 have hlt := (List.getElem?_eq_some_iff.1 hk).1
 rw [List.findIdx?_eq_some_iff_getElem]
 refine ⟨hlt, by rw [(List.getElem?_eq_some_iff.1 hk).2]; exact hx, fun j hj => ?_⟩
 have := List.any_eq_false.1 h0 l[j] (by rw [List.mem_take_iff_getElem]; exact ⟨j, by omega, rfl⟩)
 simpa using this
set_option maxRecDepth 100000 in
set_option maxHeartbeats 2000000 in
theorem idx_any (A : Option Addr) (c : Nat) (l : List S35) (w : World) (hC : Kd.C k35 w A l.length l) (hc : l.length ≤ c) :
  Calls Try.prog 104 #[.slice A l.length c, .func (.func 100) #[] #[]] w (RetB (.int .i64 (idxI l)) w) := by
 have hu35 := Try.underlying35
 have hb := hC.2.1
 have HI : Hid (idxI l = match l.findIdx? badS with | none => -1 | some i => (i : Int)) := Lib.hid rfl
 go_enter Try.func104, Try.ntmps104
 go_wp2
 go_loopw [8] (fun i wr => ∃ (k : Nat), k ≤ l.length ∧ i = .int .i64 k ∧ Hid ((l.take k).any badS = false) ∧ Below w.heap.size w wr) (fun i _ => l.length - (intOf i).toNat)
 case atStart => exact ⟨0, Nat.zero_le _, rfl, Lib.hid (by simp), Below.refl _ _⟩
 case round =>
  obtain ⟨k, hk, rfl, HA, mB⟩ := hrel
  by_cases hlt : k < l.length
  ·obtain ⟨ad, rfl, hx0, hx1⟩ := at_T35 hC k (by omega) (by omega)
   simp only [Int.toNat_natCast] at hx0 hx1
   replace hx0 := (mB.cell (World.block_lt_of_cell? w _ hx0)).trans hx0
   replace hx1 := (mB.cell (World.block_lt_of_cell? w _ hx1)).trans hx1
   have hlk : l[k]? = some (rd_T35 l (k : Int)) := by simp [rd_T35, List.getD_eq_getElem?_getD, hlt]
   have htk : l.take (k + 1) = l.take k ++ [rd_T35 l (k : Int)] := by rw [List.take_add_one, hlk]; rfl
   generalize rd_T35 l (k : Int) = x at *
   have HT := Lib.hid htk
   have HK := Lib.hid hlk
   clear htk hlk
   go_wp2_with fail
   have hcon := chk1_any x wr
   (with_reducible refine hcon.mono ?_)
   clear hcon hx0 hx1
   rintro e W1 ⟨rfl, hb1⟩
   replace mB := below_step mB hb1
   clear hb1
   cases hbx : badS x with
   | true =>
    have HE := Lib.hid (HI.out.trans (by rw [findIdx_at HK.out HA.out hbx]))
    clear hbx
    go_wp2
    go_ret
    exact ⟨zq31, mB⟩
   | false =>
    have HB := Lib.hid hbx
    clear hbx
    go_wp2
    go_roundw
    case rel => exact ⟨k + 1, by omega, by simp, Lib.hid (by rw [HT.out, List.any_append, HA.out, List.any_cons, HB.out]; rfl), mB⟩
    case measure => simp [intOf]; omega
  ·obtain rfl : k = l.length := by omega
   rw [List.take_length] at HA
   have hn : l.findIdx? badS = none := by
    rw [List.findIdx?_eq_none_iff]
    intro x hx
    have := List.any_eq_false.1 HA.out x hx
    simpa using this
   have HE := Lib.hid (HI.out.trans (by rw [hn]))
   clear hn
   go_wp2
   go_ret
   exact ⟨zq31, mB⟩
theorem idxI_any (l : List S35) : (idxI l < 0 ∧ l.any badS = false) ∨ (0 ≤ idxI l ∧ l.any badS = true) := by
 unfold idxI
 cases h : l.findIdx? badS with
 | none =>
  refine .inl ⟨by decide, ?_⟩
  rw [List.any_eq_false]
  intro x hx
  have := List.findIdx?_eq_none_iff.1 h x hx
  simp [this]
 | some i =>
  obtain ⟨h1, h2, _⟩ := List.findIdx?_eq_some_iff_getElem.1 h
  exact .inr ⟨by dsimp only; omega, List.any_eq_true.2 ⟨_, List.getElem_mem h1, h2⟩⟩
set_option maxHeartbeats 1000000 in
theorem cont35_any (A : Option Addr) (c : Nat) (l : List S35) (w : World) (hC : Kd.C k35 w A l.length l) (hc : l.length ≤ c) :
  Calls Try.prog 99 #[.slice A l.length c, .func (.func 100) #[] #[]] w (RetB (.bool (l.any badS)) w) := by
 go_enter Try.func99, Try.ntmps99
 go_wp2_with fail
 have hcon := idx_any A c l w hC hc
 (with_reducible refine hcon.mono ?_)
 clear hcon
 rintro e W1 ⟨rfl, mB⟩
 rcases idxI_any l with ⟨h1, h2⟩ | ⟨h1, h2⟩
 ·have HA := Lib.hid h2
  have hd : decide (0 ≤ idxI l) = false := decide_eq_false (by omega)
  clear h2
  generalize idxI l = I at *
  go_wp2
  go_ret
  exact ⟨by rw [HA.out, ← hd]; rfl, mB⟩
 ·have HA := Lib.hid h2
  have hd : decide (0 ≤ idxI l) = true := decide_eq_true h1
  clear h2
  generalize idxI l = I at *
  go_wp2
  go_ret
  exact ⟨by rw [HA.out, ← hd]; rfl, mB⟩
def spansE (l : List S35) : Int := if l.any badS then 2 else 0
set_option maxHeartbeats 1000000 in
theorem checkSpans_any (A : Option Addr) (c : Nat) (l : List S35) (w : World) (hC : Kd.C k35 w A l.length l) (hc : l.length ≤ c) :
  Calls Try.prog 78 #[.slice A l.length c] w (RetB (.int .i64 (spansE l)) w) := by
 have HS : Hid (spansE l = if l.any badS then 2 else 0) := Lib.hid rfl
 go_enter Try.func78, Try.ntmps78
 go_wp2_with fail
 have hcon := cont35_any A c l w hC hc
 (with_reducible refine hcon.mono ?_)
 clear hcon
 rintro e W1 ⟨rfl, mB⟩
 generalize l.any badS = b at *
 cases b with
 | true =>
  go_wp2
  go_ret
  exact ⟨by rw [HS.out]; rfl, mB⟩
 | false =>
  go_wp2
  go_ret
  exact ⟨by rw [HS.out]; rfl, mB⟩
end Go.Proofs.Ytcjdhajdoikojaa.Clk
end
section
/- The order of events, and what spans have in common: what the program answers. -/
namespace Go.Proofs.Ytcjdhajdoikojaa.Clk
open Go.RowKit Go.Shelf Go.Proofs.YtcjdhajdoikojaaW.PrintWords Go.Proofs.YtcjdhajdoikojaaW.PrintLast Go.Proofs.YtcjdhajdoikojaaW.PrintMore Go.Proofs.Ytcjdhajdoikojaa.Pr Go.Proofs.YtcjdhajdoikojaaW.Round
set_option linter.unusedVariables false
set_option linter.unusedSimpArgs false

def manyE (l : List S35) : Int := if l.length > 128 then 6 else spansE l
set_option maxHeartbeats 1000000 in
theorem many_any (A : Option Addr) (c : Nat) (l : List S35) (w : World) (hC : Kd.C k35 w A l.length l) (hc : l.length ≤ c) :
  Calls Try.prog 81 #[.slice A l.length c] w (RetB (.int .i64 (manyE l)) w) := by
 have HM : Hid (manyE l = if l.length > 128 then 6 else spansE l) := Lib.hid rfl
 by_cases h : l.length > 128
 ·have HE := Lib.hid (HM.out.trans (if_pos h))
  have d1 : decide ((128 : Int) < (l.length : Int)) = true := decide_eq_true (by omega)
  go_enter Try.func81, Try.ntmps81
  go_wp2
  go_ret
  exact ⟨zq31, Below.refl _ _⟩
 ·have HE := Lib.hid (HM.out.trans (if_neg h))
  have d1 : decide ((128 : Int) < (l.length : Int)) = false := decide_eq_false (by omega)
  go_enter Try.func81, Try.ntmps81
  go_wp2_with fail
  have hcon := checkSpans_any A c l w hC hc
  (with_reducible refine hcon.mono ?_)
  clear hcon
  rintro e W1 ⟨rfl, mB⟩
  generalize spansE l = E at *
  go_wp2
  go_ret
  exact ⟨zq31, mB⟩

def beforeI (a b : S35) : Int := if a.f1 < b.f0 then 2 else if a.f0 ≥ b.f1 then 0 else 1
def BeforeI (a b : S35) : Int × Int := if spansE [a, b] ≠ 0 then (0, spansE [a, b]) else (beforeI a b, 0)
set_option maxRecDepth 100000 in
set_option maxHeartbeats 2000000 in
theorem Before_any (a b : S35) (w : World) : Calls Try.prog 45 #[.agg #[.int .i64 a.f0, .int .i64 a.f1], .agg #[.int .i64 b.f0, .int .i64 b.f1]] w (RetB (.tuple #[.int .i64 (BeforeI a b).1, .int .i64 (BeforeI a b).2]) w) := by
 have hu35 := Try.underlying35
 have HB : Hid (BeforeI a b = if spansE [a, b] ≠ 0 then (0, spansE [a, b]) else (beforeI a b, 0)) := Lib.hid rfl
 go_enter Try.func45, Try.ntmps45
 go_wp2_with fail
 have m2 : Blk (((w.alloc (.cells #[.int .i64 a.f0, .int .i64 a.f1] 35)).alloc (.cells #[.int .i64 b.f0, .int .i64 b.f1] 35)).alloc (.cells #[.int .i64 a.f0, .int .i64 a.f1, .int .i64 b.f0, .int .i64 b.f1] 35)) (w.heap.size) #[.int .i64 a.f0, .int .i64 a.f1] 35 := (blk_alloc (blk_alloc (by have h_ := blk_new w (.cells #[.int .i64 a.f0, .int .i64 a.f1] 35); first | exact h_ | (simp only [World.size_alloc] at h_; exact h_)) _) _)
 have m3 : Blk (((w.alloc (.cells #[.int .i64 a.f0, .int .i64 a.f1] 35)).alloc (.cells #[.int .i64 b.f0, .int .i64 b.f1] 35)).alloc (.cells #[.int .i64 a.f0, .int .i64 a.f1, .int .i64 b.f0, .int .i64 b.f1] 35)) (w.heap.size + 1) #[.int .i64 b.f0, .int .i64 b.f1] 35 := (blk_alloc (by have h_ := blk_new (w.alloc (.cells #[.int .i64 a.f0, .int .i64 a.f1] 35)) (.cells #[.int .i64 b.f0, .int .i64 b.f1] 35); first | exact h_ | (simp only [World.size_alloc] at h_; exact h_)) _)
 have m9 : Blk (((w.alloc (.cells #[.int .i64 a.f0, .int .i64 a.f1] 35)).alloc (.cells #[.int .i64 b.f0, .int .i64 b.f1] 35)).alloc (.cells #[.int .i64 a.f0, .int .i64 a.f1, .int .i64 b.f0, .int .i64 b.f1] 35)) (w.heap.size + 1 + 1) #[.int .i64 a.f0, .int .i64 a.f1, .int .i64 b.f0, .int .i64 b.f1] 35 := (by have h_ := blk_new ((w.alloc (.cells #[.int .i64 a.f0, .int .i64 a.f1] 35)).alloc (.cells #[.int .i64 b.f0, .int .i64 b.f1] 35)) (.cells #[.int .i64 a.f0, .int .i64 a.f1, .int .i64 b.f0, .int .i64 b.f1] 35); first | exact h_ | (simp only [World.size_alloc] at h_; exact h_))
 have mB : Below w.heap.size w (((w.alloc (.cells #[.int .i64 a.f0, .int .i64 a.f1] 35)).alloc (.cells #[.int .i64 b.f0, .int .i64 b.f1] 35)).alloc (.cells #[.int .i64 a.f0, .int .i64 a.f1, .int .i64 b.f0, .int .i64 b.f1] 35)) := (below_alloc (below_alloc (below_alloc (Below.refl w.heap.size w) _) _) _)
 have hsz_ : w.heap.size ≤ w.heap.size := Nat.le_refl _
 generalize hW_ : (((w.alloc (.cells #[.int .i64 a.f0, .int .i64 a.f1] 35)).alloc (.cells #[.int .i64 b.f0, .int .i64 b.f1] 35)).alloc (.cells #[.int .i64 a.f0, .int .i64 a.f1, .int .i64 b.f0, .int .i64 b.f1] 35)) = W1 at m2 m3 m9 mB ⊢
 clear hW_
 generalize hg2 : w.heap.size = g2 at m2 m3 m9 ⊢
 have hG2 : w.heap.size ≤ g2 := by omega
 generalize hg3 : g2 + 1 = g3 at m3 m9 ⊢
 have hn_2_3 : g2 ≠ g3 := by omega
 have hn_3_2 : g3 ≠ g2 := hn_2_3.symm
 have hG3 : w.heap.size ≤ g3 := by omega
 generalize hg9 : g3 + 1 = g9 at m9 ⊢
 have hn_2_9 : g2 ≠ g9 := by omega
 have hn_3_9 : g3 ≠ g9 := by omega
 have hn_9_2 : g9 ≠ g2 := hn_2_9.symm
 have hn_9_3 : g9 ≠ g3 := hn_3_9.symm
 have hG9 : w.heap.size ≤ g9 := by omega
 clear hsz_
 try clear hg9
 try clear hg3
 try clear hg2
 have hs_W1 : w.heap.size ≤ W1.heap.size := mB.size
 have hcon : Calls Try.prog 78 #[.slice (some ⟨g9, 0, none⟩) 2 2] W1 (RetB (.int .i64 (spansE [a, b])) W1) := checkSpans_any (some ⟨g9, 0, none⟩) 2 [a, b] W1 (C_two (x := a) (y := b) m9) (Nat.le_refl _)
 (with_reducible refine hcon.mono ?_)
 clear hcon
 rintro e W2 ⟨rfl, hb⟩
 replace m2 := blk_below m2 hb
 replace m3 := blk_below m3 hb
 replace m9 := blk_below m9 hb
 replace mB := below_step mB hb
 clear hb
 have hs_W2 : w.heap.size ≤ W2.heap.size := mB.size
 by_cases h0 : spansE [a, b] = 0
 case neg =>
  have HE := Lib.hid (HB.out.trans (if_pos h0))
  generalize spansE [a, b] = E0 at *
  have hd : (E0 == 0) = false := beq_eq_false_iff_ne.2 h0
  have hd2 : (E0 != 0) = true := by rw [bne, hd]; rfl
  clear h0 HB
  go_wp2
  go_ret2
  exact ⟨zq31, mB⟩
 case pos =>
  have HE := Lib.hid (HB.out.trans (if_neg (by rw [h0]; decide)))
  rw [h0]
  clear h0 HB
  obtain ⟨c2_0, c2_1⟩ := zcs2 m2
  obtain ⟨c3_0, c3_1⟩ := zcs2 m3
  go_wp2_with fail
  clear c2_0 c2_1 c3_0 c3_1
  have hcon := clock_before.calls a.f0 a.f1 b.f0 b.f1 (beforeI a b) W2 (by unfold clock_before.f beforeI; split <;> (try split) <;> rfl)
  (with_reducible refine hcon.mono ?_)
  clear hcon
  rintro e W3 ⟨rfl, hb⟩
  replace mB := below_step mB hb
  generalize beforeI a b = R at *
  go_wp2
  go_ret2
  exact ⟨zq31, mB⟩

def commonE (l : List S35) : Int := if manyE l ≠ 0 then manyE l else if (meetF l).1 ≤ (meetF l).2 ∧ l.length ≠ 0 then 0 else 5
def commonV (l : List S35) : Int × Int := if commonE l = 0 then meetF l else (0, 0)
theorem commonV_bad {l : List S35} {c : Int} (h : commonE l = c) (hc : c ≠ 0) : commonV l = (0, 0) := by unfold commonV; rw [h, if_neg hc]
theorem manyE_len {l : List S35} (h : manyE l = 0) : l.length ≤ 128 := by
 unfold manyE at h
 by_cases hl : l.length > 128
 ·rw [if_pos hl] at h
  cases h
 ·omega
set_option maxRecDepth 100000 in
set_option maxHeartbeats 4000000 in
theorem Common_any (A : Option Addr) (c : Nat) (l : List S35) (w : World) (hC : Kd.C k35 w A l.length l) (hc : l.length ≤ c) :
  Calls Try.prog 49 #[.slice A l.length c] w (RetB (.tuple #[.agg #[.int .i64 (commonV l).1, .int .i64 (commonV l).2], .int .i64 (commonE l)]) w) := by
 have hu35 := Try.underlying35
 have HE : Hid (commonE l = if manyE l ≠ 0 then manyE l else if (meetF l).1 ≤ (meetF l).2 ∧ l.length ≠ 0 then 0 else 5) := Lib.hid rfl
 have HV : Hid (commonV l = if commonE l = 0 then meetF l else (0, 0)) := Lib.hid rfl
 go_enter Try.func49, Try.ntmps49
 go_wp2_with fail
 have m2 : Blk (w.alloc (.cells #[.int .i64 0, .int .i64 0] 35)) (w.heap.size) #[.int .i64 0, .int .i64 0] 35 := (by have h_ := blk_new w (.cells #[.int .i64 0, .int .i64 0] 35); first | exact h_ | (simp only [World.size_alloc] at h_; exact h_))
 have mB : Below w.heap.size w (w.alloc (.cells #[.int .i64 0, .int .i64 0] 35)) := (below_alloc (Below.refl w.heap.size w) _)
 have hsz_ : w.heap.size ≤ w.heap.size := Nat.le_refl _
 generalize hW_ : (w.alloc (.cells #[.int .i64 0, .int .i64 0] 35)) = W1 at m2 mB ⊢
 clear hW_
 generalize hg2 : w.heap.size = g2 at m2 ⊢
 have hG2 : w.heap.size ≤ g2 := by omega
 clear hsz_
 try clear hg2
 have hs_W1 : w.heap.size ≤ W1.heap.size := mB.size
 have hcon := many_any A c l W1 (Kd.C_below hC mB) hc
 (with_reducible refine hcon.mono ?_)
 clear hcon
 rintro e W2 ⟨rfl, hb⟩
 replace m2 := blk_below m2 hb
 replace mB := below_step mB hb
 clear hb
 have hs_W2 : w.heap.size ≤ W2.heap.size := mB.size
 by_cases h0 : manyE l = 0
 case neg =>
  have HE1 := Lib.hid (HE.out.trans (if_pos h0))
  have h0_ := Lib.hid h0
  have hv := Lib.hid (commonV_bad HE1.out h0)
  generalize manyE l = E0 at *
  have hd : (E0 == 0) = false := beq_eq_false_iff_ne.2 h0
  have hd2 : (E0 != 0) = true := by rw [bne, hd]; rfl
  clear h0 HE
  obtain ⟨f2_0, f2_1⟩ := zfs2 m2
  obtain ⟨c2_0, c2_1⟩ := zcs2 m2
  go_wp2
  exact bodyPost_ret (results_ct rfl _ _ g2 35 #[.int .i64 0, .int .i64 0] (0, 0) _ rfl (blk_put (blk_put m2 0 _ rfl) 1 _ rfl) Try.underlying35 rfl zq1) rfl ⟨by rw [hv.out, HE1.out]; rfl, (mB.setCell hG2 _).setCell hG2 _⟩
 case pos =>
  have hlen := manyE_len h0
  have HE1 := Lib.hid (HE.out.trans (if_neg (by rw [h0]; decide)))
  rw [h0]
  clear h0 HE
  go_wp2_with fail
  have hcon := values35_at A l.length c W2.heap.size W2 rfl
  (with_reducible refine hcon.mono ?_)
  clear hcon
  rintro e W3 ⟨rfl, rfl⟩
  go_wp2_with fail
  have hl_2 := blk_lt m2
  have mV : Blk (W2.alloc (.cells #[.slice A l.length c] 65)) (W2.heap.size) #[.slice A l.length c] 65 := (by have h_ := blk_new W2 (.cells #[.slice A l.length c] 65); first | exact h_ | (simp only [World.size_alloc] at h_; exact h_))
  replace m2 : Blk (W2.alloc (.cells #[.slice A l.length c] 65)) g2 #[.int .i64 0, .int .i64 0] 35 := (blk_alloc m2 _)
  replace mB : Below w.heap.size w (W2.alloc (.cells #[.slice A l.length c] 65)) := (below_alloc mB _)
  have hsz_ : w.heap.size ≤ W2.heap.size := hs_W2
  generalize hW_ : (W2.alloc (.cells #[.slice A l.length c] 65)) = W4 at m2 mV mB ⊢
  clear hW_
  generalize hgV : W2.heap.size = gV at mV ⊢
  have hn_2_V : g2 ≠ gV := by omega
  have hn_V_2 : gV ≠ g2 := hn_2_V.symm
  have hGV : w.heap.size ≤ gV := by omega
  clear hsz_ hl_2
  try clear hgV
  have hs_W4 : w.heap.size ≤ W4.heap.size := mB.size
  have hml : meetF (l.map id) = meetF l := by rw [List.map_id]
  have HML := Lib.hid hml
  clear hml
  have hcon := meet35_any 101 85 #[.pointer (some ⟨gV, 0, none⟩)] #[] W4 l id (enters_of Try.func101 zq1 rfl) (enters_of Try.func85 zq1 rfl) (fun W_ hb_ => values35_stops 5 (by omega) gV W4 W_ A c l (by omega) (Kd.C_below hC mB) hb_ (Nat.lt_of_lt_of_le (blk_lt mV) hb_.size) ((blk_cell (blk_below mV hb_) 0).trans rfl)) itself_span
  (with_reducible refine hcon.mono ?_)
  clear hcon
  rintro e W5 ⟨rfl, hb⟩
  replace m2 := blk_below m2 hb
  replace mV := blk_below mV hb
  replace mB := below_step mB hb
  clear hb
  have hs_W5 : w.heap.size ≤ W5.heap.size := mB.size
  rw [HML.out]
  generalize meetF l = M at *
  obtain ⟨P1, P2⟩ := M
  dsimp only at HE1 HV ⊢
  have q2_0 : ∀ o_, (W5.alloc o_).cell? ⟨g2, 0, none⟩ = some (.int .i64 0) := fun o_ => (blk_cell (blk_alloc m2 o_) 0).trans rfl
  have q2_1 : ∀ o_, (W5.alloc o_).cell? ⟨g2, 1, none⟩ = some (.int .i64 0) := fun o_ => (blk_cell (blk_alloc m2 o_) 1).trans rfl
  have r2_0 : ∀ o_, (W5.alloc o_).frozen? ⟨g2, 0, none⟩ = false := fun o_ => blk_frozen (blk_alloc m2 o_) 0
  have r2_1 : ∀ o_, (W5.alloc o_).frozen? ⟨g2, 1, none⟩ = false := fun o_ => blk_frozen (blk_alloc m2 o_) 1
  have m5 := blk_alloc m2 (.cells #[.int .i64 P1, .int .i64 P2] 35)
  have mC := below_alloc mB (.cells #[.int .i64 P1, .int .i64 P2] 35)
  by_cases hok : P1 ≤ P2
  case neg =>
   have hd : decide (P1 ≤ P2) = false := decide_eq_false hok
   have HE2 := Lib.hid (HE1.out.trans (if_neg (fun h => hok h.1)))
   have hv := Lib.hid (commonV_bad HE2.out (by decide))
   clear hok
   go_wp2
   exact bodyPost_ret (results_ct rfl _ _ g2 35 #[.int .i64 0, .int .i64 0] (0, 0) _ rfl (blk_put (blk_put m5 0 _ rfl) 1 _ rfl) Try.underlying35 rfl zq1) rfl ⟨by rw [hv.out, HE2.out]; rfl, (mC.setCell hG2 _).setCell hG2 _⟩
  case pos =>
   have hd : decide (P1 ≤ P2) = true := decide_eq_true hok
   by_cases hz : l.length = 0
   case pos =>
    have hz1 : ((l.length : Int) == 0) = true := by rw [hz]; rfl
    have HE2 := Lib.hid (HE1.out.trans (if_neg (fun h => h.2 hz)))
    have hv := Lib.hid (commonV_bad HE2.out (by decide))
    clear hok hz
    go_wp2
    exact bodyPost_ret (results_ct rfl _ _ g2 35 #[.int .i64 0, .int .i64 0] (0, 0) _ rfl (blk_put (blk_put m5 0 _ rfl) 1 _ rfl) Try.underlying35 rfl zq1) rfl ⟨by rw [hv.out, HE2.out]; rfl, (mC.setCell hG2 _).setCell hG2 _⟩
   case neg =>
    have hz1 : ((l.length : Int) == 0) = false := beq_eq_false_iff_ne.2 (by omega)
    have HE2 := Lib.hid (HE1.out.trans (if_pos ⟨hok, hz⟩))
    have HV2 := Lib.hid (HV.out.trans (if_pos HE2.out))
    clear hok hz
    go_wp2
    exact bodyPost_ret (results_ct rfl _ _ g2 35 #[.int .i64 P1, .int .i64 P2] (0, 0) _ rfl (blk_put (blk_put m5 0 _ rfl) 1 _ rfl) Try.underlying35 rfl zq1) rfl ⟨by rw [HV2.out, HE2.out]; rfl, (mC.setCell hG2 _).setCell hG2 _⟩
end Go.Proofs.Ytcjdhajdoikojaa.Clk
end
section
/- The contracts of checkSpans, Before and Common, as the printed texts ask for them. -/
namespace Go.Proofs.Ytcjdhajdoikojaa.Pr
open Go.RowKit Go.Proofs.YtcjdhajdoikojaaW.PrintWords Go.Proofs.YtcjdhajdoikojaaW.PrintLast Go.Proofs.YtcjdhajdoikojaaW.PrintMore Go.Proofs.Ytcjdhajdoikojaa.Clk
set_option linter.unusedVariables false
def clock_checkSpans.f (l0 : List (S35)) : Option (Int) := some (spansE l0)
theorem clock_checkSpans.calls (A0 : Option Addr) (c0 : Nat) (l0 : List (S35)) (r : Int) (w : World) (hr0 : Kd.C k35 w A0 l0.length l0) (hc0 : l0.length ≤ c0) (h : clock_checkSpans.f l0 = some r) :
  Calls Try.prog 78 #[.slice A0 l0.length c0] w fun e w' => e = .returned (.int .i64 r) ∧ Below w.heap.size w w' := by
 cases h
 exact checkSpans_any A0 c0 l0 w hr0 hc0
def clock_Before.f (a0_0 : Int) (a0_1 : Int) (a1_0 : Int) (a1_1 : Int) : Option (Int × Int) := some ((BeforeI ⟨a0_0, a0_1⟩ ⟨a1_0, a1_1⟩).1, (BeforeI ⟨a0_0, a0_1⟩ ⟨a1_0, a1_1⟩).2)
theorem clock_Before.calls (a0_0 : Int) (a0_1 : Int) (a1_0 : Int) (a1_1 : Int) (r1 : Int) (r2 : Int) (w : World) (h : clock_Before.f a0_0 a0_1 a1_0 a1_1 = some (r1, r2)) :
  Calls Try.prog 45 #[.agg #[.int .i64 a0_0, .int .i64 a0_1], .agg #[.int .i64 a1_0, .int .i64 a1_1]] w fun e w' => e = .returned (.tuple #[.int .i64 r1, .int .i64 r2]) ∧ Below w.heap.size w w' := by
 cases h
 exact Before_any ⟨a0_0, a0_1⟩ ⟨a1_0, a1_1⟩ w
def clock_Common.f (l0 : List (S35)) : Option (Int × Int × Int) := some ((commonV l0).1, (commonV l0).2, commonE l0)
theorem clock_Common.calls (A0 : Option Addr) (c0 : Nat) (l0 : List (S35)) (r1 : Int) (r2 : Int) (r3 : Int) (w : World) (hr0 : Kd.C k35 w A0 l0.length l0) (hc0 : l0.length ≤ c0) (h : clock_Common.f l0 = some (r1, r2, r3)) :
  Calls Try.prog 49 #[.slice A0 l0.length c0] w fun e w' => e = .returned (.tuple #[.agg #[.int .i64 r1, .int .i64 r2], .int .i64 r3]) ∧ Below w.heap.size w w' := by
 cases h
 exact Common_any A0 c0 l0 w hr0 hc0
end Go.Proofs.Ytcjdhajdoikojaa.Pr
end
section
namespace Go.Proofs.Ytcjdhajdoikojaa.Pr
open Go.RowKit Go.Proofs.YtcjdhajdoikojaaW.PrintWords Go.Proofs.YtcjdhajdoikojaaW.PrintLast Go.Proofs.YtcjdhajdoikojaaW.PrintMore
attribute [local go_sem] max2_int min2_int max_two min_two
set_option linter.unusedVariables false
set_option linter.unusedSimpArgs false

/-! ### clock_checkMany: function 81 -/
def clock_checkMany.f (l0 : List (S35)) : Option (Int) := if (l0.length : Int) > 128 then (some 6) else ((clock_checkSpans.f l0).bind fun t561 => (some t561))
set_option maxHeartbeats 8000000 in
set_option maxRecDepth 100000 in
theorem clock_checkMany.calls (A0 : Option Addr) (c0 : Nat) (l0 : List (S35)) (r : Int) (w : World) (hr0 : Kd.C k35 w A0 l0.length l0) (hc0 : l0.length ≤ c0) (h : clock_checkMany.f l0 = some r) :
  Calls Try.prog 81 #[.slice A0 l0.length c0] w fun e w' => e = .returned (.int .i64 r) ∧ Below w.heap.size w w' := by
 have HR0 := Aside0.mk hr0
 have HC0 := Aside0.mk hc0
 clear hr0 hc0
 have HB := Aside0.mk (Below.refl w.heap.size w)
 have H : (if (l0.length : Int) > 128 then (some 6) else ((clock_checkSpans.f l0).bind fun t561 => (some t561))) = some r := h
 clear h
 by_cases c2 : (l0.length : Int) > 128
 ·rw [if_pos c2] at H
  have c2b0 : decide (128 < (l0.length : Int)) = true := decide_eq_true c2
  have c2b1 : decide (128 < l0.length) = true := decide_eq_true (by omega)
  clear c2
  obtain rfl := Option.some.inj H
  go_enter Try.func81, Try.ntmps81
  go_wp2
  go_ret
  exact ⟨zq3, zbz⟩
 ·rw [if_neg c2] at H
  have c2b0 : decide (128 < (l0.length : Int)) = false := decide_eq_false c2
  have c2b1 : decide (128 < l0.length) = false := decide_eq_false (by omega)
  clear c2
  replace H := Option.bind_eq_some_iff.mp H
  obtain ⟨t561, A30, H⟩ := H
  replace H : (some t561) = some r := H
  have A3 := Aside0.mk A30
  clear A30
  obtain rfl := Option.some.inj H
  go_enter Try.func81, Try.ntmps81
  go_wp2_with (first | ((with_reducible refine gate_callee (f := 78) rfl ?_); refine goesL_ (some 7) rfl rfl Try.func78 zq1 rfl #[.slice A0 l0.length c0] rfl zq26 ?_; (with_reducible refine (clock_checkSpans.calls _ _ l0 t561 _ ?side1 ?side2 A3.out).mono ?_); (case side1 => repeat (first | exact HR0.out | (with_reducible refine Kd.C_alloc ?_ _) | (with_reducible refine Kd.C_drewN ?_ _) | (with_reducible refine Kd.C_drew ?_))); (case side2 => exact HC0.out); rintro e w4 ⟨rfl, hb⟩; refine ⟨_, rfl, ?_⟩; replace HB := zbs HB hb; (try clear hb); (try clear hb2); (try clear hk); (try clear hi)))
  go_ret
  exact ⟨zq3, zbz⟩

end Go.Proofs.Ytcjdhajdoikojaa.Pr
end
