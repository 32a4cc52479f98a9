/- Part 11 of the proof of TopInside: what the functions compute. No condition. -/
import Derived.Test.YthglkoddmpicdaaTiTopInside3
import Derived.Test.YthglkoddmpicdaaTiTopInside6
set_option linter.unusedVariables false
set_option linter.unusedSimpArgs false
section
/- Dive and At, as the program answers. -/
namespace Go.Proofs.Ythglkoddmpicdaa.Gl
open Go.RowKit Go.Shelf Go.Proofs.YthglkoddmpicdaaW.PrintWords Go.Proofs.YthglkoddmpicdaaW.PrintLast Go.Proofs.YthglkoddmpicdaaW.PrintMore Go.Proofs.Ythglkoddmpicdaa.Pr Go.Proofs.YthglkoddmpicdaaW.Round
set_option linter.unusedVariables false
set_option linter.unusedSimpArgs false
attribute [local go_sem] max2_int min2_int max_two min_two max_four
end Go.Proofs.Ythglkoddmpicdaa.Gl
end
section
/- At, as the program answers. -/
namespace Go.Proofs.Ythglkoddmpicdaa.Gl
open Go.RowKit Go.Shelf Go.Proofs.YthglkoddmpicdaaW.PrintWords Go.Proofs.YthglkoddmpicdaaW.PrintLast Go.Proofs.YthglkoddmpicdaaW.PrintMore Go.Proofs.Ythglkoddmpicdaa.Pr Go.Proofs.YthglkoddmpicdaaW.Round
set_option linter.unusedVariables false
set_option linter.unusedSimpArgs false
attribute [local go_sem] max2_int min2_int max_two min_two max_four
end Go.Proofs.Ythglkoddmpicdaa.Gl
end
section
/- The contracts of exported functions, as the printed texts ask for them. -/
namespace Go.Proofs.Ythglkoddmpicdaa.Pr
open Go.RowKit Go.Proofs.YthglkoddmpicdaaW.PrintWords Go.Proofs.YthglkoddmpicdaaW.PrintLast Go.Proofs.YthglkoddmpicdaaW.PrintMore Go.Proofs.Ythglkoddmpicdaa.Gl
set_option linter.unusedVariables false
def glider_CheckSea.f (a0_0 : Int) (a0_1 : Int) (a0_2 : Int) (a0_3 : Int) (a0_4 : Int) (a0_5 : Int) (a0_6 : Int) (l0_7 : List Bool) (l0_8 : List (S33)) : Option (Int) := some (seaE ⟨a0_0, a0_1, a0_2, a0_3, a0_4, a0_5, a0_6, l0_7, l0_8⟩)
theorem glider_CheckSea.calls (a0_0 : Int) (a0_1 : Int) (a0_2 : Int) (a0_3 : Int) (a0_4 : Int) (a0_5 : Int) (a0_6 : Int) (A0_7 : Option Addr) (c0_7 : Nat) (l0_7 : List Bool) (A0_8 : Option Addr) (c0_8 : Nat) (l0_8 : List (S33)) (r : Int) (w : World) (hr0_7 : Kd.C Kd.bool w A0_7 l0_7.length l0_7) (hc0_7 : l0_7.length ≤ c0_7) (hr0_8 : Kd.C k33 w A0_8 l0_8.length l0_8) (hc0_8 : l0_8.length ≤ c0_8) (h : glider_CheckSea.f a0_0 a0_1 a0_2 a0_3 a0_4 a0_5 a0_6 l0_7 l0_8 = some r) :
  Calls Try.prog 50 #[.agg #[.int .i64 a0_0, .int .i64 a0_1, .int .i64 a0_2, .int .i64 a0_3, .int .i64 a0_4, .int .i64 a0_5, .int .i64 a0_6, .slice A0_7 l0_7.length c0_7, .slice A0_8 l0_8.length c0_8]] w fun e w' => e = .returned (.int .i64 r) ∧ Below w.heap.size w w' := by
 cases h
 exact sea_any ⟨a0_0, a0_1, a0_2, a0_3, a0_4, a0_5, a0_6, l0_7, l0_8⟩ A0_7 A0_8 c0_7 c0_8 w hc0_7 hr0_7 hc0_8 hr0_8

end Go.Proofs.Ythglkoddmpicdaa.Pr
end
section
/- Is a run among some too long: what the program answers. -/
namespace Go.Proofs.Ythglkoddmpicdaa.Gl
open Go.RowKit Go.Shelf Go.Proofs.YthglkoddmpicdaaW.PrintWords Go.Proofs.YthglkoddmpicdaaW.PrintLast Go.Proofs.YthglkoddmpicdaaW.PrintMore Go.Proofs.Ythglkoddmpicdaa.Pr Go.Proofs.YthglkoddmpicdaaW.Round
set_option linter.unusedVariables false
set_option linter.unusedSimpArgs false
attribute [local go_sem] max2_int min2_int max_two min_two max_four
set_option maxRecDepth 100000 in
set_option maxHeartbeats 2000000 in
theorem v1_any (n c : Nat) (A : Option Addr) (w : World) : Calls Try.prog 71 #[.slice A n c] w (RetB (.bool (decide (64 < n))) w) := by
 by_cases h : 64 < n
 ·have hd : decide (64 < (n : Int)) = true := decide_eq_true (by omega)
  have HD := Lib.hid (decide_eq_true h)
  clear h
  go_enter Try.func71, Try.ntmps71
  go_wp2
  go_ret
  exact ⟨by rw [HD.out]; rfl, Below.refl _ _⟩
 ·have hd : decide (64 < (n : Int)) = false := decide_eq_false (by omega)
  have HD := Lib.hid (decide_eq_false h)
  clear h
  go_enter Try.func71, Try.ntmps71
  go_wp2
  go_ret
  exact ⟨by rw [HD.out]; rfl, Below.refl _ _⟩
set_option maxRecDepth 100000 in
set_option maxHeartbeats 2000000 in
theorem idx45_any (A : Option Addr) (c : Nat) (l : List (List S29)) (w : World) (hC : Kd.C (Kd.slice 29 k29) w A l.length l) (hc : l.length ≤ c) :
  Calls Try.prog 126 #[.slice A l.length c, .func (.func 71) #[] #[]] w (RetB (.int .i64 (idxI (fun x => decide (64 < x.length)) l)) w) := by
 have eg : ∀ args w, (callFunc 71 args).run Try.prog w = .ok (.enter 71 args) w := enters_of Try.func71 zq2 rfl
 have hb := hC.2.1
 have HI : Hid (idxI (fun x => decide (64 < x.length)) l = match l.findIdx? (fun x => decide (64 < x.length)) with | none => -1 | some i => (i : Int)) := Lib.hid rfl
 go_enter Try.func126, Try.ntmps126
 go_wp2
 go_loopw [8] (fun i wr => ∃ (k : Nat), k ≤ l.length ∧ i = .int .i64 k ∧ Hid ((l.take k).any (fun x => decide (64 < x.length)) = false) ∧ Below w.heap.size w wr) (fun i _ => l.length - (intOf i).toNat)
 case atStart => exact ⟨0, Nat.zero_le _, rfl, Lib.hid (by simp), Below.refl _ _⟩
 case round =>
  obtain ⟨k, hk, rfl, HA, mB⟩ := hrel
  by_cases hlt : k < l.length
  ·obtain ⟨ad, A0, c0, rfl, hx0, hc0, hC0⟩ := at_L9 hC k (by omega) (by omega)
   simp only [Int.toNat_natCast] at hx0
   clear hC0 hc0
   replace hx0 := (mB.cell (World.block_lt_of_cell? w _ hx0)).trans hx0
   have hlk : l[k]? = some (rd_L9 l (k : Int)) := by simp [rd_L9, List.getD_eq_getElem?_getD, hlt]
   have htk : l.take (k + 1) = l.take k ++ [rd_L9 l (k : Int)] := by rw [List.take_add_one, hlk]; rfl
   generalize rd_L9 l (k : Int) = x at *
   have HT := Lib.hid htk
   have HK := Lib.hid hlk
   clear htk hlk
   go_wp2_with fail
   have hcon := v1_any x.length c0 A0 wr
   (with_reducible refine hcon.mono ?_)
   clear hcon hx0
   rintro e W1 ⟨rfl, hb1⟩
   replace mB := below_step mB hb1
   clear hb1
   cases hbx : decide (64 < x.length) with
   | true =>
    have HE := Lib.hid (HI.out.trans (by rw [findIdx_at HK.out HA.out hbx]))
    clear hbx
    go_wp2
    go_ret
    exact ⟨zq16, mB⟩
   | false =>
    have HB := Lib.hid hbx
    clear hbx
    go_wp2
    go_roundw
    case rel => exact ⟨k + 1, by omega, by simp, Lib.hid zq17, mB⟩
    case measure => simp [intOf]; omega
  ·obtain rfl : k = l.length := by omega
   rw [List.take_length] at HA
   have hn : l.findIdx? (fun x => decide (64 < x.length)) = none := by
    rw [List.findIdx?_eq_none_iff]
    intro x hx
    have := List.any_eq_false.1 HA.out x hx
    simpa using this
   have HE := Lib.hid (HI.out.trans (by rw [hn]))
   clear hn
   go_wp2
   go_ret
   exact ⟨zq16, mB⟩
set_option maxHeartbeats 1000000 in
theorem cont45_any (A : Option Addr) (c : Nat) (l : List (List S29)) (w : World) (hC : Kd.C (Kd.slice 29 k29) w A l.length l) (hc : l.length ≤ c) :
  Calls Try.prog 70 #[.slice A l.length c, .func (.func 71) #[] #[]] w (RetB (.bool (l.any (fun x => decide (64 < x.length)))) w) := by
 have hcon := idx45_any A c l w hC hc
 have hx := idxI_any (fun x => decide (64 < x.length)) l
 generalize idxI (fun x => decide (64 < x.length)) l = I at *
 generalize l.any (fun x => decide (64 < x.length)) = R at *
 go_enter Try.func70, Try.ntmps70
 go_wp2_with fail
 (with_reducible refine hcon.mono ?_)
 clear hcon
 rintro e W1 ⟨rfl, mB⟩
 rcases hx with ⟨h1, h2⟩ | ⟨h1, h2⟩
 ·have HA := Lib.hid h2
  have hd : decide (0 ≤ I) = false := decide_eq_false (by omega)
  clear h1 h2
  go_wp2
  go_ret
  exact ⟨by rw [HA.out]; rfl, mB⟩
 ·have HA := Lib.hid h2
  have hd : decide (0 ≤ I) = true := decide_eq_true (by omega)
  clear h1 h2
  go_wp2
  go_ret
  exact ⟨by rw [HA.out]; rfl, mB⟩
end Go.Proofs.Ythglkoddmpicdaa.Gl
end
section
/- A call with a function that is known, as the printed text asks for it. -/
namespace Go.Proofs.Ythglkoddmpicdaa.Pr
open Go.RowKit Go.Proofs.YthglkoddmpicdaaW.PrintWords Go.Proofs.YthglkoddmpicdaaW.PrintLast Go.Proofs.YthglkoddmpicdaaW.PrintMore Go.Proofs.Ythglkoddmpicdaa.Gl
set_option linter.unusedVariables false
def api_Box_70.f (l0 : List (List (S29))) : Option (Bool) := some (l0.any (fun x => decide (64 < x.length)))
theorem api_Box_70.calls (A0 : Option Addr) (c0 : Nat) (l0 : List (List (S29))) (r : Bool) (w : World) (hr0 : Kd.C (Kd.slice 29 k29) w A0 l0.length l0) (hc0 : l0.length ≤ c0) (h : api_Box_70.f l0 = some r) :
  Calls Try.prog 70 #[.slice A0 l0.length c0, .func (.func 71) #[] #[]] w fun e w' => e = .returned (.bool r) ∧ Below w.heap.size w w' := by
 cases h
 exact cont45_any A0 c0 l0 w hr0 hc0
end Go.Proofs.Ythglkoddmpicdaa.Pr
end
