/- Part 19 of the proof of TopSearched: what the functions compute. No condition. -/
import Derived.Test.YthglkoddmpicdaaTsTopSearched3
import Derived.Test.YthglkoddmpicdaaTsTopSearched18
import Derived.Test.YthglkoddmpicdaaTsTopSearched6
set_option linter.unusedVariables false
set_option linter.unusedSimpArgs false
section
/- Which cells one run has visited: the row is put into a new row of rows. -/
namespace Go.Proofs.Ythglkoddmpicdaa.Pr
open Go.RowKit Go.Proofs.YthglkoddmpicdaaW.PrintWords Go.Proofs.YthglkoddmpicdaaW.PrintLast Go.Proofs.YthglkoddmpicdaaW.PrintMore Go.Proofs.Ythglkoddmpicdaa.Gl
set_option linter.unusedVariables false
theorem C_row {W : World} {b : Nat} {A : Option Addr} {c : Nat} {l : List S29} (h : W.heap[b]? = some (.cells #[.slice A l.length c] 45 (0, 0))) (hc : l.length ≤ c) (hC : Kd.C k29 W A l.length l) : Kd.C (Kd.slice 29 k29) W (some ⟨b, 0, none⟩) 1 [l] := by
 refine ⟨rfl, by decide, fun _ => ⟨⟨b, 0, none⟩, rfl, fun j p hj => ?_⟩⟩
 match j, hj with
 | 0, hj =>
  obtain rfl : l = p := by simpa using hj
  refine ⟨[.slice A l.length c], rfl, ⟨A, c, rfl, hc, hC⟩, fun i u hu => ?_⟩
  match i, hu with
  | 0, hu => exact ((blk_cell h 0).trans (by simpa using hu))
def visited_one.f (k : Nat) (a0_0 : Int) (a0_1 : Int) (a0_2 : Int) (a0_3 : Int) (a0_4 : Int) (a0_5 : Int) (a0_6 : Int) (l0_7 : List Bool) (l0_8 : List (S33)) (l1 : List (S29)) : Option (List Int × Int) := glider_Visited.f k a0_0 a0_1 a0_2 a0_3 a0_4 a0_5 a0_6 l0_7 l0_8 [l1]
theorem visited_one.calls (k : Nat) (a0_0 : Int) (a0_1 : Int) (a0_2 : Int) (a0_3 : Int) (a0_4 : Int) (a0_5 : Int) (a0_6 : Int) (A0_7 : Option Addr) (c0_7 : Nat) (l0_7 : List Bool) (A0_8 : Option Addr) (c0_8 : Nat) (l0_8 : List (S33)) (A1 : Option Addr) (c1 : Nat) (l1 : List (S29)) (r1 : List Int) (r2 : Int) (w : World) (hr0_7 : Kd.C Kd.bool w A0_7 l0_7.length l0_7) (hc0_7 : l0_7.length ≤ c0_7) (hr0_8 : Kd.C k33 w A0_8 l0_8.length l0_8) (hc0_8 : l0_8.length ≤ c0_8) (hr1 : Kd.C k29 w A1 l1.length l1) (hc1 : l1.length ≤ c1) (h : visited_one.f k a0_0 a0_1 a0_2 a0_3 a0_4 a0_5 a0_6 l0_7 l0_8 l1 = some (r1, r2)) :
  Calls Try.prog 20 #[.agg #[.int .i64 a0_0, .int .i64 a0_1, .int .i64 a0_2, .int .i64 a0_3, .int .i64 a0_4, .int .i64 a0_5, .int .i64 a0_6, .slice A0_7 l0_7.length c0_7, .slice A0_8 l0_8.length c0_8], .slice (some ⟨w.heap.size, 0, none⟩) 1 1] (w.alloc (.cells #[.slice A1 l1.length c1] 45)) fun e w' => ∃ v0_ : Value, e = .returned (.tuple #[v0_, .int .i64 r2]) ∧ Kd.R (Kd.int .i64) 46 w' w.heap.size (fun _ => True) v0_ r1 ∧ Below w.heap.size w w' := by
 have hB := below_alloc (Below.refl w.heap.size w) (.cells #[.slice A1 l1.length c1] 45)
 have hX : Kd.C (Kd.slice 29 k29) (w.alloc (.cells #[.slice A1 l1.length c1] 45)) (some ⟨w.heap.size, 0, none⟩) 1 [l1] := C_row (blk_new w _) hc1 (Kd.C_below hr1 hB)
 refine (glider_Visited.calls k a0_0 a0_1 a0_2 a0_3 a0_4 a0_5 a0_6 A0_7 c0_7 l0_7 A0_8 c0_8 l0_8 (some ⟨w.heap.size, 0, none⟩) 1 [l1] r1 r2 _ (Kd.C_below hr0_7 hB) hc0_7 (Kd.C_below hr0_8 hB) hc0_8 hX (Nat.le_refl _) h).mono ?_
 rintro e w' ⟨v, he, hR, hb⟩
 exact ⟨v, he, Kd.R_lower hR hB.size, below_step hB hb⟩
end Go.Proofs.Ythglkoddmpicdaa.Pr
end
