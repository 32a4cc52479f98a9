/- Part 13 of the proof of TopInside: what the functions compute. No condition. -/
import Derived.Test.YthglkoddmpicdaaTiTopInside3
import Derived.Test.YthglkoddmpicdaaTiTopInside5
import Derived.Test.YthglkoddmpicdaaTiTopInside8
import Derived.Test.YthglkoddmpicdaaTiTopInside10
import Derived.Test.YthglkoddmpicdaaTiTopInside12
set_option linter.unusedVariables false
set_option linter.unusedSimpArgs false
section
namespace Go.Proofs.Ythglkoddmpicdaa.Pr
open Go.RowKit Go.Proofs.YthglkoddmpicdaaW.PrintWords Go.Proofs.YthglkoddmpicdaaW.PrintLast Go.Proofs.YthglkoddmpicdaaW.PrintMore
attribute [local go_sem] max2_int min2_int max_two min_two max_four
set_option linter.unusedVariables false
set_option linter.unusedSimpArgs false

/-! ### isobathtop_TopInside: function 4 -/
mutual
def isobathtop_TopInside.j0 : Nat → Int → List (List (S29)) → Bool → Int → Int → Int → Int → Int → Int → Int → List Bool → List (S33) → Int → Int → Int → Int → Int → Int → Int → Int → Int → Int → Int → Int → Int → Option (Bool)
 | 0, _, _, _, _, _, _, _, _, _, _, _, _, _, _, _, _, _, _, _, _, _, _, _, _, _ => none
 | k + 1, x2, x3, x41, x319000, x319001, x319002, x319003, x319004, x319005, x319006, x319007, x319008, x320000, x320001, x320002, x320003, x320004, x320005, x320006, x321000, x321001, x321002, x321003, x321004, x321005 => if x41 = true then ((isobathtop_works03.f k).bind fun t322 => (some t322)) else (isobathtop_TopInside.l0 k x2 x3 0 x319000 x319001 x319002 x319003 x319004 x319005 x319006 x319007 x319008 x320000 x320001 x320002 x320003 x320004 x320005 x320006 x321000 x321001 x321002 x321003 x321004 x321005)
def isobathtop_TopInside.l0 : Nat → Int → List (List (S29)) → Int → Int → Int → Int → Int → Int → Int → Int → List Bool → List (S33) → Int → Int → Int → Int → Int → Int → Int → Int → Int → Int → Int → Int → Int → Option (Bool)
 | 0, _, _, _, _, _, _, _, _, _, _, _, _, _, _, _, _, _, _, _, _, _, _, _, _, _ => none
 | k + 1, x2, x3, x11, x319000, x319001, x319002, x319003, x319004, x319005, x319006, x319007, x319008, x320000, x320001, x320002, x320003, x320004, x320005, x320006, x321000, x321001, x321002, x321003, x321004, x321005 => if x11 < (x3.length : Int) then (if 0 ≤ x11 then (if ((rd_L9 x3 x11).length : Int) > 20 then ((isobathtop_works03.f k).bind fun t324 => (some t324)) else (isobathtop_TopInside.l0 k x2 x3 (wrap64 (x11 + 1)) x319000 x319001 x319002 x319003 x319004 x319005 x319006 x319007 x319008 x320000 x320001 x320002 x320003 x320004 x320005 x320006 x321000 x321001 x321002 x321003 x321004 x321005)) else (none)) else (isobathtop_TopInside.l1 k x2 x3 0 x319000 x319001 x319002 x319003 x319004 x319005 x319006 x319007 x319008 x320000 x320001 x320002 x320003 x320004 x320005 x320006 x321000 x321001 x321002 x321003 x321004 x321005)
def isobathtop_TopInside.l1 : Nat → Int → List (List (S29)) → Int → Int → Int → Int → Int → Int → Int → Int → List Bool → List (S33) → Int → Int → Int → Int → Int → Int → Int → Int → Int → Int → Int → Int → Int → Option (Bool)
 | 0, _, _, _, _, _, _, _, _, _, _, _, _, _, _, _, _, _, _, _, _, _, _, _, _, _ => none
 | k + 1, x2, x3, x12, x319000, x319001, x319002, x319003, x319004, x319005, x319006, x319007, x319008, x320000, x320001, x320002, x320003, x320004, x320005, x320006, x321000, x321001, x321002, x321003, x321004, x321005 => if x12 < (x3.length : Int) then (if 0 ≤ x12 then ((glider_Fetched.f k x320000 x320001 x320002 x320003 x320004 x320005 x320006 x2 (rd_L9 x3 x12) x321000 x321001 x321002 x321003 x321004 x321005).bind fun bt326 => (if bt326.2 = 0 then (isobathtop_TopInside.l2 k x2 x3 x12 bt326.1 ([] : List Int) 0 x319000 x319001 x319002 x319003 x319004 x319005 x319006 x319007 x319008 x320000 x320001 x320002 x320003 x320004 x320005 x320006 x321000 x321001 x321002 x321003 x321004 x321005) else (if bt326.1 = 0 then (isobathtop_TopInside.l1 k x2 x3 (wrap64 (x12 + 1)) x319000 x319001 x319002 x319003 x319004 x319005 x319006 x319007 x319008 x320000 x320001 x320002 x320003 x320004 x320005 x320006 x321000 x321001 x321002 x321003 x321004 x321005) else (some false)))) else (none)) else ((glider_Visited.f k x319000 x319001 x319002 x319003 x319004 x319005 x319006 x319007 x319008 x3).bind fun bt338 => (if bt338.2 = 0 then ((isobathref03_CheckSea.f k x319000 x319001 x319002 x319003 x319004 x319005 x319006 x319007 x319008).bind fun t343 => (if t343 = 0 then (isobathtop_TopInside.j5 k x3 bt338.1 ((bt338.1.length : Int) != (wrap64 (x319000 * x319001))) x319000 x319001 x319002 x319003 x319004 x319005 x319006 x319007 x319008) else (isobathtop_TopInside.j5 k x3 bt338.1 true x319000 x319001 x319002 x319003 x319004 x319005 x319006 x319007 x319008))) else (if (bt338.1.length : Int) = 0 then ((isobathtop_works03.f k).bind fun t342 => (some t342)) else (some false))))
def isobathtop_TopInside.l2 : Nat → Int → List (List (S29)) → Int → Int → List Int → Int → Int → Int → Int → Int → Int → Int → Int → List Bool → List (S33) → Int → Int → Int → Int → Int → Int → Int → Int → Int → Int → Int → Int → Int → Option (Bool)
 | 0, _, _, _, _, _, _, _, _, _, _, _, _, _, _, _, _, _, _, _, _, _, _, _, _, _, _, _, _ => none
 | k + 1, x2, x3, x12, x13, x15, x16, x319000, x319001, x319002, x319003, x319004, x319005, x319006, x319007, x319008, x320000, x320001, x320002, x320003, x320004, x320005, x320006, x321000, x321001, x321002, x321003, x321004, x321005 => if 0 ≤ x12 then (if x12 < (x3.length : Int) then (if x16 < ((rd_L9 x3 x12).length : Int) then (if (wrap64 (x2 + (wrap64 ((wrap64 (x16 + 1)) * x320001)))) < x321004 then (isobathtop_TopInside.j4 k x2 x3 x12 x13 x15 x16 true x319000 x319001 x319002 x319003 x319004 x319005 x319006 x319007 x319008 x320000 x320001 x320002 x320003 x320004 x320005 x320006 x321000 x321001 x321002 x321003 x321004 x321005) else (isobathtop_TopInside.j4 k x2 x3 x12 x13 x15 x16 (decide ((wrap64 (x2 + (wrap64 ((wrap64 (x16 + 1)) * x320001)))) > x321005)) x319000 x319001 x319002 x319003 x319004 x319005 x319006 x319007 x319008 x320000 x320001 x320002 x320003 x320004 x320005 x320006 x321000 x321001 x321002 x321003 x321004 x321005)) else ((bound_Any.f x15).bind fun bt329 => (if bt329.2 = 0 then (if bt329.1 = x13 then (isobathtop_TopInside.l1 k x2 x3 (wrap64 (x12 + 1)) x319000 x319001 x319002 x319003 x319004 x319005 x319006 x319007 x319008 x320000 x320001 x320002 x320003 x320004 x320005 x320006 x321000 x321001 x321002 x321003 x321004 x321005) else (some false)) else (some false)))) else (none)) else (none)
def isobathtop_TopInside.j4 : Nat → Int → List (List (S29)) → Int → Int → List Int → Int → Bool → Int → Int → Int → Int → Int → Int → Int → List Bool → List (S33) → Int → Int → Int → Int → Int → Int → Int → Int → Int → Int → Int → Int → Int → Option (Bool)
 | 0, _, _, _, _, _, _, _, _, _, _, _, _, _, _, _, _, _, _, _, _, _, _, _, _, _, _, _, _, _ => none
 | k + 1, x2, x3, x12, x13, x15, x16, x102, x319000, x319001, x319002, x319003, x319004, x319005, x319006, x319007, x319008, x320000, x320001, x320002, x320003, x320004, x320005, x320006, x321000, x321001, x321002, x321003, x321004, x321005 => if x102 = true then (isobathtop_TopInside.l2 k x2 x3 x12 x13 x15 (wrap64 (x16 + 1)) x319000 x319001 x319002 x319003 x319004 x319005 x319006 x319007 x319008 x320000 x320001 x320002 x320003 x320004 x320005 x320006 x321000 x321001 x321002 x321003 x321004 x321005) else (if 0 ≤ x12 then (if x12 < (x3.length : Int) then (if 0 ≤ x16 then (if x16 < ((rd_L9 x3 x12).length : Int) then ((isobathtop_within.f k ((rd_T29 (rd_L9 x3 x12) x16).f0.f0) ((rd_T29 (rd_L9 x3 x12) x16).f0.f1) ((rd_T29 (rd_L9 x3 x12) x16).f1.f0) ((rd_T29 (rd_L9 x3 x12) x16).f1.f1) x321000 x321001 x321002 x321003).bind fun bt333 => (if bt333.2 = true then (if x15.length < 17592186044416 then (isobathtop_TopInside.l2 k x2 x3 x12 x13 (x15 ++ [bt333.1]) (wrap64 (x16 + 1)) x319000 x319001 x319002 x319003 x319004 x319005 x319006 x319007 x319008 x320000 x320001 x320002 x320003 x320004 x320005 x320006 x321000 x321001 x321002 x321003 x321004 x321005) else (none)) else (some false))) else (none)) else (none)) else (none)) else (none))
def isobathtop_TopInside.j5 : Nat → List (List (S29)) → List Int → Bool → Int → Int → Int → Int → Int → Int → Int → List Bool → List (S33) → Option (Bool)
 | 0, _, _, _, _, _, _, _, _, _, _, _, _ => none
 | k + 1, x3, x22, x160, x319000, x319001, x319002, x319003, x319004, x319005, x319006, x319007, x319008 => if x160 = true then (some false) else (isobathtop_TopInside.l3 k x3 x22 0 x319000 x319001 x319002 x319003 x319004 x319005 x319006 x319007 x319008)
def isobathtop_TopInside.l3 : Nat → List (List (S29)) → List Int → Int → Int → Int → Int → Int → Int → Int → Int → List Bool → List (S33) → Option (Bool)
 | 0, _, _, _, _, _, _, _, _, _, _, _, _ => none
 | k + 1, x3, x22, x24, x319000, x319001, x319002, x319003, x319004, x319005, x319006, x319007, x319008 => if x24 < (x22.length : Int) then (if x319000 = 0 then (none) else (isobathtop_TopInside.l4 k x3 x22 x24 ([] : List Int) 0 x319000 x319001 x319002 x319003 x319004 x319005 x319006 x319007 x319008 (wrap64 ((Int.tmod x24 x319000) * x319002)) (wrap64 ((wrap64 ((Int.tmod x24 x319000) * x319002)) + x319002)) (wrap64 ((wrap64 (Int.tdiv x24 x319000)) * x319002)) (wrap64 ((wrap64 ((wrap64 (Int.tdiv x24 x319000)) * x319002)) + x319002)))) else ((isobathtop_works03.f k).bind fun t344 => (some t344))
def isobathtop_TopInside.l4 : Nat → List (List (S29)) → List Int → Int → List Int → Int → Int → Int → Int → Int → Int → Int → Int → List Bool → List (S33) → Int → Int → Int → Int → Option (Bool)
 | 0, _, _, _, _, _, _, _, _, _, _, _, _, _, _, _, _, _, _ => none
 | k + 1, x3, x22, x24, x28, x29, x319000, x319001, x319002, x319003, x319004, x319005, x319006, x319007, x319008, x346000, x346001, x346002, x346003 => if x29 < (x3.length : Int) then (isobathtop_TopInside.l5 k x3 x22 x24 x28 x29 0 x319000 x319001 x319002 x319003 x319004 x319005 x319006 x319007 x319008 x346000 x346001 x346002 x346003) else ((bound_Any.f x28).bind fun bt346 => (if bt346.2 = 0 then (if 0 ≤ x24 then (if x24 < (x22.length : Int) then (if bt346.1 = (rd x22 x24) then (isobathtop_TopInside.l3 k x3 x22 (wrap64 (x24 + 1)) x319000 x319001 x319002 x319003 x319004 x319005 x319006 x319007 x319008) else (some false)) else (none)) else (none)) else (some false)))
def isobathtop_TopInside.l5 : Nat → List (List (S29)) → List Int → Int → List Int → Int → Int → Int → Int → Int → Int → Int → Int → Int → List Bool → List (S33) → Int → Int → Int → Int → Option (Bool)
 | 0, _, _, _, _, _, _, _, _, _, _, _, _, _, _, _, _, _, _, _ => none
 | k + 1, x3, x22, x24, x28, x29, x30, x319000, x319001, x319002, x319003, x319004, x319005, x319006, x319007, x319008, x346000, x346001, x346002, x346003 => if 0 ≤ x29 then (if x29 < (x3.length : Int) then (if x30 < ((rd_L9 x3 x29).length : Int) then (if 0 ≤ x30 then ((isobathtop_within.f k ((rd_T29 (rd_L9 x3 x29) x30).f0.f0) ((rd_T29 (rd_L9 x3 x29) x30).f0.f1) ((rd_T29 (rd_L9 x3 x29) x30).f1.f0) ((rd_T29 (rd_L9 x3 x29) x30).f1.f1) x346000 x346001 x346002 x346003).bind fun bt352 => (if bt352.2 = true then (if x28.length < 17592186044416 then (isobathtop_TopInside.l5 k x3 x22 x24 (x28 ++ [bt352.1]) x29 (wrap64 (x30 + 1)) x319000 x319001 x319002 x319003 x319004 x319005 x319006 x319007 x319008 x346000 x346001 x346002 x346003) else (none)) else (some false))) else (none)) else (isobathtop_TopInside.l4 k x3 x22 x24 x28 (wrap64 (x29 + 1)) x319000 x319001 x319002 x319003 x319004 x319005 x319006 x319007 x319008 x346000 x346001 x346002 x346003)) else (none)) else (none)
end
def isobathtop_TopInside.f (k : Nat) (a0_0 : Int) (a0_1 : Int) (a0_2 : Int) (a0_3 : Int) (a0_4 : Int) (a0_5 : Int) (a0_6 : Int) (l0_7 : List Bool) (l0_8 : List (S33)) (a1_0 : Int) (a1_1 : Int) (a1_2 : Int) (a1_3 : Int) (a1_4 : Int) (a1_5 : Int) (a1_6 : Int) (a2 : Int) (l3 : List (List (S29))) (a4_0 : Int) (a4_1 : Int) (a4_2 : Int) (a4_3 : Int) (a4_4 : Int) (a4_5 : Int) : Option (Bool) := (isobathtop_large.f a0_0 a0_1 a0_2 a0_3 a0_4 a0_5 a0_6 l0_7 l0_8).bind fun t321 => (if t321 = true then (isobathtop_TopInside.j0 k a2 l3 true a0_0 a0_1 a0_2 a0_3 a0_4 a0_5 a0_6 l0_7 l0_8 a1_0 a1_1 a1_2 a1_3 a1_4 a1_5 a1_6 a4_0 a4_1 a4_2 a4_3 a4_4 a4_5) else (isobathtop_TopInside.j0 k a2 l3 (decide ((l3.length : Int) > 3)) a0_0 a0_1 a0_2 a0_3 a0_4 a0_5 a0_6 l0_7 l0_8 a1_0 a1_1 a1_2 a1_3 a1_4 a1_5 a1_6 a4_0 a4_1 a4_2 a4_3 a4_4 a4_5))
def isobathtop_TopInside.T11 : Bool × List (List Nat × List Nat) := (true, [([], []), ([], []), ([], []), ([], []), ([2, 3], [2, 3]), ([4], [4]), ([], []), ([0, 1, 5, 6], [0, 1, 5, 6]), ([7], [7]), ([8], [8]), ([8], [8]), ([9, 7, 0, 1, 2, 3, 4, 5, 6, 7, 8, 9], [9]), ([10, 11, 0, 1, 2, 3, 4, 5, 6, 7, 8, 9, 10, 11], [10])])
def isobathtop_TopInside.B11 : List Nat := [0, 0, 0, 0, 12, 28, 0, 127, 255, 511, 511, 1023, 4095]
theorem isobathtop_TopInside.tab11 : rtab .any (opsOf Try.f4 11) = isobathtop_TopInside.T11 := by kernel_rfl
theorem isobathtop_TopInside.bits11 : waitsOk isobathtop_TopInside.T11.2 isobathtop_TopInside.B11 = true := by kernel_rfl
def isobathtop_TopInside.T21 : Bool × List (List Nat × List Nat) := (true, [([], []), ([], []), ([0, 1], [0, 1]), ([2], [2]), ([], []), ([3, 4], [3, 4]), ([5], [5]), ([], []), ([7], [7]), ([6, 8], [6, 8]), ([9], [9]), ([10], [10]), ([10], [10]), ([11, 9, 0, 1, 2, 3, 4, 5, 6, 7, 8, 9, 10, 11], [11]), ([12, 13, 0, 1, 2, 3, 4, 5, 6, 7, 8, 9, 10, 11, 12, 13], [12])])
def isobathtop_TopInside.B21 : List Nat := [0, 0, 3, 7, 0, 31, 63, 0, 128, 511, 1023, 2047, 2047, 4095, 16383]
theorem isobathtop_TopInside.tab21 : rtab .any (opsOf Try.f4 21) = isobathtop_TopInside.T21 := by kernel_rfl
theorem isobathtop_TopInside.bits21 : waitsOk isobathtop_TopInside.T21.2 isobathtop_TopInside.B21 = true := by kernel_rfl
def isobathtop_TopInside.T36 : Bool × List (List Nat × List Nat) := (true, [([], []), ([], []), ([1], [1]), ([0, 2], [0, 2]), ([], []), ([4], [4]), ([3, 5], [3, 5]), ([], []), ([], []), ([8], [8]), ([7, 9], [7, 9]), ([], []), ([11], [11]), ([10, 12], [10, 12]), ([6, 0, 1, 2, 3, 4, 5, 6], [6]), ([13, 14, 0, 1, 2, 3, 4, 5, 6, 7, 8, 9, 10, 11, 12, 13, 14], [13])])
def isobathtop_TopInside.B36 : List Nat := [0, 0, 2, 7, 0, 16, 63, 0, 0, 256, 896, 0, 2048, 8064, 127, 32767]
theorem isobathtop_TopInside.tab36 : rtab .any (opsOf Try.f4 36) = isobathtop_TopInside.T36 := by kernel_rfl
theorem isobathtop_TopInside.bits36 : waitsOk isobathtop_TopInside.T36.2 isobathtop_TopInside.B36 = true := by kernel_rfl
def isobathtop_TopInside.T45 : Bool × List (List Nat × List Nat) := (true, [([], []), ([], []), ([0, 1], [0, 1]), ([2], [2]), ([], []), ([3, 4], [3, 4]), ([5], [5]), ([], []), ([6, 7], [6, 7]), ([8], [8]), ([9], [9]), ([9], [9]), ([10, 8, 0, 1, 2, 3, 4, 5, 6, 7, 8, 9, 10], [10]), ([11, 12, 0, 1, 2, 3, 4, 5, 6, 7, 8, 9, 10, 11, 12], [11])])
def isobathtop_TopInside.B45 : List Nat := [0, 0, 3, 7, 0, 31, 63, 0, 255, 511, 1023, 1023, 2047, 8191]
theorem isobathtop_TopInside.tab45 : rtab .any (opsOf Try.f4 45) = isobathtop_TopInside.T45 := by kernel_rfl
theorem isobathtop_TopInside.bits45 : waitsOk isobathtop_TopInside.T45.2 isobathtop_TopInside.B45 = true := by kernel_rfl
set_option maxHeartbeats 80000000 in
set_option maxRecDepth 100000 in
theorem isobathtop_TopInside.calls (k : Nat) (a0_0 : Int) (a0_1 : Int) (a0_2 : Int) (a0_3 : Int) (a0_4 : Int) (a0_5 : Int) (a0_6 : Int) (A0_7 : Option Addr) (c0_7 : Nat) (l0_7 : List Bool) (A0_8 : Option Addr) (c0_8 : Nat) (l0_8 : List (S33)) (a1_0 : Int) (a1_1 : Int) (a1_2 : Int) (a1_3 : Int) (a1_4 : Int) (a1_5 : Int) (a1_6 : Int) (a2 : Int) (A3 : Option Addr) (c3 : Nat) (l3 : List (List (S29))) (a4_0 : Int) (a4_1 : Int) (a4_2 : Int) (a4_3 : Int) (a4_4 : Int) (a4_5 : Int) (r : Bool) (w : World) (hr0_7 : Kd.C Kd.bool w A0_7 l0_7.length l0_7) (hc0_7 : l0_7.length ≤ c0_7) (hr0_8 : Kd.C k33 w A0_8 l0_8.length l0_8) (hc0_8 : l0_8.length ≤ c0_8) (hr3 : Kd.C (Kd.slice 29 k29) w A3 l3.length l3) (hc3 : l3.length ≤ c3) (h : isobathtop_TopInside.f k a0_0 a0_1 a0_2 a0_3 a0_4 a0_5 a0_6 l0_7 l0_8 a1_0 a1_1 a1_2 a1_3 a1_4 a1_5 a1_6 a2 l3 a4_0 a4_1 a4_2 a4_3 a4_4 a4_5 = some r) (hr_ : Aside0 (r = true)) :
  Calls Try.prog 4 #[.agg #[.int .i64 a0_0, .int .i64 a0_1, .int .i64 a0_2, .int .i64 a0_3, .int .i64 a0_4, .int .i64 a0_5, .int .i64 a0_6, .slice A0_7 l0_7.length c0_7, .slice A0_8 l0_8.length c0_8], .agg #[.int .i64 a1_0, .int .i64 a1_1, .int .i64 a1_2, .int .i64 a1_3, .int .i64 a1_4, .int .i64 a1_5, .int .i64 a1_6], .int .i64 a2, .slice A3 l3.length c3, .agg #[.int .i64 a4_0, .int .i64 a4_1, .int .i64 a4_2, .int .i64 a4_3, .int .i64 a4_4, .int .i64 a4_5]] w fun e w' => e = .returned (.bool r) ∧ Below w.heap.size w w' := by
 have hu25 := Try.underlying25
 have hu41 := Try.underlying41
 have hu44 := Try.underlying44
 have hu29 := Try.underlying29
 have hu27 := Try.underlying27
 have HR0_7 := Aside0.mk hr0_7
 have HC0_7 := Aside0.mk hc0_7
 clear hr0_7 hc0_7
 have HR0_8 := Aside0.mk hr0_8
 have HC0_8 := Aside0.mk hc0_8
 clear hr0_8 hc0_8
 have HR3 := Aside0.mk hr3
 have HC3 := Aside0.mk hc3
 clear hr3 hc3
 have HB := Aside0.mk (Below.refl w.heap.size w)
 have H : ((isobathtop_large.f a0_0 a0_1 a0_2 a0_3 a0_4 a0_5 a0_6 l0_7 l0_8).bind fun t321 => (if t321 = true then (isobathtop_TopInside.j0 k a2 l3 true a0_0 a0_1 a0_2 a0_3 a0_4 a0_5 a0_6 l0_7 l0_8 a1_0 a1_1 a1_2 a1_3 a1_4 a1_5 a1_6 a4_0 a4_1 a4_2 a4_3 a4_4 a4_5) else (isobathtop_TopInside.j0 k a2 l3 (decide ((l3.length : Int) > 3)) a0_0 a0_1 a0_2 a0_3 a0_4 a0_5 a0_6 l0_7 l0_8 a1_0 a1_1 a1_2 a1_3 a1_4 a1_5 a1_6 a4_0 a4_1 a4_2 a4_3 a4_4 a4_5))) = some r := h
 clear h
 have HC6 := Aside0.mk H
 clear H
 go_enter Try.func4, Try.ntmps4
 go_upto_region 1 with (first | ((with_reducible refine gate_dst (N := 5) rfl ?_); (try (refine gate_guard (by rfl) ?_; dsimp only)); refine box_event (by rfl) (N := 5) (by rfl) (cs := #[.int .i64 a0_0, .int .i64 a0_1, .int .i64 a0_2, .int .i64 a0_3, .int .i64 a0_4, .int .i64 a0_5, .int .i64 a0_6, .slice A0_7 l0_7.length c0_7, .slice A0_8 l0_8.length c0_8]) (t := 25) zq0 ?_; intro gb318 hg w7 hbox hb; have BK318 := Aside0.mk (hbox); have GW318 := zgs HB hg; have GE318 := zgs HB hg; replace HB := zbs HB hb; clear hb hbox hg) | ((with_reducible refine gate_dst (N := 6) rfl ?_); (try (refine gate_guard (by rfl) ?_; dsimp only)); refine box_event (by rfl) (N := 6) (by rfl) (cs := #[.int .i64 a1_0, .int .i64 a1_1, .int .i64 a1_2, .int .i64 a1_3, .int .i64 a1_4, .int .i64 a1_5, .int .i64 a1_6]) (t := 41) zq0 ?_; intro gb319 hg w8 hbox hb; have BK319 := Aside0.mk (hbox); have GW319 := zgs HB hg; have GE319 := zgs HB hg; have NB318_319 := znp BK318 hg; have NB319_318 := znq BK318 hg; replace BK318 := zbb BK318 hb; replace HB := zbs HB hb; clear hb hbox hg) | ((with_reducible refine gate_dst (N := 9) rfl ?_); (try (refine gate_guard (by rfl) ?_; dsimp only)); refine box_event (by rfl) (N := 9) (by rfl) (cs := #[.int .i64 a4_0, .int .i64 a4_1, .int .i64 a4_2, .int .i64 a4_3, .int .i64 a4_4, .int .i64 a4_5]) (t := 44) zq0 ?_; intro gb320 hg w9 hbox hb; have BK320 := Aside0.mk (hbox); have GW320 := zgs HB hg; have GE320 := zgs HB hg; have NB318_320 := znp BK318 hg; have NB320_318 := znq BK318 hg; have NB319_320 := znp BK319 hg; have NB320_319 := znq BK319 hg; replace BK318 := zbb BK318 hb; replace BK319 := zbb BK319 hb; replace HB := zbs HB hb; clear hb hbox hg))
 (try simp only [Act.put, List.setIfInBounds_toArray, List.set_cons_zero, List.set_cons_succ])
 go_cut [41] (fun v41 wc => ∃ (kq : Nat) (x41_5 : Bool), v41 = .bool x41_5 ∧ Aside0 (isobathtop_TopInside.j0 kq a2 l3 x41_5 a0_0 a0_1 a0_2 a0_3 a0_4 a0_5 a0_6 l0_7 l0_8 a1_0 a1_1 a1_2 a1_3 a1_4 a1_5 a1_6 a4_0 a4_1 a4_2 a4_3 a4_4 a4_5 = some r) ∧ Aside0 (kq ≤ k) ∧ Aside0 (wc.heap[gb318]? = some (.cells #[.int .i64 a0_0, .int .i64 a0_1, .int .i64 a0_2, .int .i64 a0_3, .int .i64 a0_4, .int .i64 a0_5, .int .i64 a0_6, (.slice A0_7 l0_7.length c0_7), (.slice A0_8 l0_8.length c0_8)] 25 (0, 0))) ∧ Aside0 (wc.heap[gb319]? = some (.cells #[.int .i64 a1_0, .int .i64 a1_1, .int .i64 a1_2, .int .i64 a1_3, .int .i64 a1_4, .int .i64 a1_5, .int .i64 a1_6] 41 (0, 0))) ∧ Aside0 (wc.heap[gb320]? = some (.cells #[.int .i64 a4_0, .int .i64 a4_1, .int .i64 a4_2, .int .i64 a4_3, .int .i64 a4_4, .int .i64 a4_5] 44 (0, 0))) ∧ Aside0 (Below w.heap.size w wc))
 case first =>
  as_aux_lemma =>
   have H := HC6.out
   clear HC6
   replace H := Option.bind_eq_some_iff.mp H
   obtain ⟨t321, A100, H⟩ := H
   replace H : (if t321 = true then (isobathtop_TopInside.j0 k a2 l3 true a0_0 a0_1 a0_2 a0_3 a0_4 a0_5 a0_6 l0_7 l0_8 a1_0 a1_1 a1_2 a1_3 a1_4 a1_5 a1_6 a4_0 a4_1 a4_2 a4_3 a4_4 a4_5) else (isobathtop_TopInside.j0 k a2 l3 (decide ((l3.length : Int) > 3)) a0_0 a0_1 a0_2 a0_3 a0_4 a0_5 a0_6 l0_7 l0_8 a1_0 a1_1 a1_2 a1_3 a1_4 a1_5 a1_6 a4_0 a4_1 a4_2 a4_3 a4_4 a4_5)) = some r := H
   have A10 := Aside0.mk A100
   clear A100
   by_cases c11 : t321 = true
   ·subst c11
    have H1 : (isobathtop_TopInside.j0 k a2 l3 true a0_0 a0_1 a0_2 a0_3 a0_4 a0_5 a0_6 l0_7 l0_8 a1_0 a1_1 a1_2 a1_3 a1_4 a1_5 a1_6 a4_0 a4_1 a4_2 a4_3 a4_4 a4_5) = some r := by rw [if_pos rfl] at H; exact H
    clear H
    have H := H1
    clear H1
    have H' := Aside0.mk H
    clear H
    have hnb12 := NB318_319.out
    have hnc12 := NB319_318.out
    have hnb13 := NB318_320.out
    have hnc13 := NB320_318.out
    obtain ⟨hcz14_0, hcz14_1, hcz14_2, hcz14_3, hcz14_4, hcz14_5, hcz14_6, hcz14_7, hcz14_8, hfz14_0, hfz14_1, hfz14_2, hfz14_3, hfz14_4, hfz14_5, hfz14_6, hfz14_7, hfz14_8⟩ := zce9 BK318.out
    go_wp2_with (first | ((with_reducible refine gate_callee (f := 11) rfl ?_); refine goesL_ (some 36) rfl rfl Try.func11 zq2 rfl #[.agg #[.int .i64 a0_0, .int .i64 a0_1, .int .i64 a0_2, .int .i64 a0_3, .int .i64 a0_4, .int .i64 a0_5, .int .i64 a0_6, .slice A0_7 l0_7.length c0_7, .slice A0_8 l0_8.length c0_8]] rfl zq6 ?_; (with_reducible refine (isobathtop_large.calls a0_0 a0_1 a0_2 a0_3 a0_4 a0_5 a0_6 _ _ l0_7 _ _ l0_8 true _ ?side1 ?side2 ?side3 ?side4 A10.out).mono ?_); (case side1 => repeat (first | exact (Kd.C_below HR0_7.out HB.out) | (with_reducible refine Kd.C_alloc ?_ _) | (with_reducible refine Kd.C_drewN ?_ _) | (with_reducible refine Kd.C_drew ?_))); (case side2 => exact HC0_7.out); (case side3 => repeat (first | exact (Kd.C_below HR0_8.out HB.out) | (with_reducible refine Kd.C_alloc ?_ _) | (with_reducible refine Kd.C_drewN ?_ _) | (with_reducible refine Kd.C_drew ?_))); (case side4 => exact HC0_8.out); rintro e w15 ⟨rfl, hb⟩; refine ⟨_, rfl, ?_⟩; replace BK318 := zbb BK318 hb; replace BK319 := zbb BK319 hb; replace BK320 := zbb BK320 hb; replace HB := zbs HB hb; (try clear hb); (try clear hb2); (try clear hk); (try clear hi)))
    go_meet
    case rel => exact ⟨_, (true), zq3, H', ⟨zq22⟩, ⟨zbf⟩, ⟨zbf⟩, ⟨zbf⟩, ⟨zbz⟩⟩
   ·replace c11 := Bool.eq_false_iff.mpr c11
    subst c11
    have H1 : (isobathtop_TopInside.j0 k a2 l3 (decide ((l3.length : Int) > 3)) a0_0 a0_1 a0_2 a0_3 a0_4 a0_5 a0_6 l0_7 l0_8 a1_0 a1_1 a1_2 a1_3 a1_4 a1_5 a1_6 a4_0 a4_1 a4_2 a4_3 a4_4 a4_5) = some r := by rw [if_neg (show ¬ (false = true) by decide)] at H; exact H
    clear H
    have H := H1
    clear H1
    have H' := Aside0.mk H
    clear H
    have hnb16 := NB318_319.out
    have hnc16 := NB319_318.out
    have hnb17 := NB318_320.out
    have hnc17 := NB320_318.out
    obtain ⟨hcz18_0, hcz18_1, hcz18_2, hcz18_3, hcz18_4, hcz18_5, hcz18_6, hcz18_7, hcz18_8, hfz18_0, hfz18_1, hfz18_2, hfz18_3, hfz18_4, hfz18_5, hfz18_6, hfz18_7, hfz18_8⟩ := zce9 BK318.out
    go_wp2_with (first | ((with_reducible refine gate_callee (f := 11) rfl ?_); refine goesL_ (some 36) rfl rfl Try.func11 zq2 rfl #[.agg #[.int .i64 a0_0, .int .i64 a0_1, .int .i64 a0_2, .int .i64 a0_3, .int .i64 a0_4, .int .i64 a0_5, .int .i64 a0_6, .slice A0_7 l0_7.length c0_7, .slice A0_8 l0_8.length c0_8]] rfl zq6 ?_; (with_reducible refine (isobathtop_large.calls a0_0 a0_1 a0_2 a0_3 a0_4 a0_5 a0_6 _ _ l0_7 _ _ l0_8 false _ ?side1 ?side2 ?side3 ?side4 A10.out).mono ?_); (case side1 => repeat (first | exact (Kd.C_below HR0_7.out HB.out) | (with_reducible refine Kd.C_alloc ?_ _) | (with_reducible refine Kd.C_drewN ?_ _) | (with_reducible refine Kd.C_drew ?_))); (case side2 => exact HC0_7.out); (case side3 => repeat (first | exact (Kd.C_below HR0_8.out HB.out) | (with_reducible refine Kd.C_alloc ?_ _) | (with_reducible refine Kd.C_drewN ?_ _) | (with_reducible refine Kd.C_drew ?_))); (case side4 => exact HC0_8.out); rintro e w19 ⟨rfl, hb⟩; refine ⟨_, rfl, ?_⟩; replace BK318 := zbb BK318 hb; replace BK319 := zbb BK319 hb; replace BK320 := zbb BK320 hb; replace HB := zbs HB hb; (try clear hb); (try clear hb2); (try clear hk); (try clear hi)))
    go_meet
    case rel => exact ⟨_, (decide ((l3.length : Int) > 3)), zq3, H', ⟨zq22⟩, ⟨zbf⟩, ⟨zbf⟩, ⟨zbf⟩, ⟨zbz⟩⟩
 case rest =>
  as_aux_lemma =>
   clear HC6
   try clear c1
   try clear p2
   try clear c3
   try clear c4
   try clear c11
   try clear c12
   try clear c13
   try clear c16
   try clear c17
   try clear hcz14_0 hcz14_1 hcz14_2 hcz14_3 hcz14_4 hcz14_5 hcz14_6 hcz14_7 hcz14_8
   try clear hcz18_0 hcz18_1 hcz18_2 hcz18_3 hcz18_4 hcz18_5 hcz18_6 hcz18_7 hcz18_8
   try clear hfz14_0 hfz14_1 hfz14_2 hfz14_3 hfz14_4 hfz14_5 hfz14_6 hfz14_7 hfz14_8
   try clear hfz18_0 hfz18_1 hfz18_2 hfz18_3 hfz18_4 hfz18_5 hfz18_6 hfz18_7 hfz18_8
   obtain ⟨kq, x41_5, rfl, HA, HJ5, BK318, BK319, BK320, HB⟩ := hcut
   cases kq with
   | zero => exact absurd HA.out (by simp [isobathtop_TopInside.j0])
   | succ kj5 =>
    have H := HA.out
    clear HA
    simp only [isobathtop_TopInside.j0] at H
    by_cases c20 : x41_5 = true
    ·subst c20
     have H1 : ((isobathtop_works03.f kj5).bind fun t322 => (some t322)) = some r := by rw [if_pos rfl] at H; exact H
     clear H
     have H := H1
     clear H1
     replace H := Option.bind_eq_some_iff.mp H
     obtain ⟨t322, A210, H⟩ := H
     replace H : (some t322) = some r := H
     have A21 := Aside0.mk A210
     clear A210
     obtain rfl := Option.some.inj H
     go_wp2_with (first | ((with_reducible refine gate_callee (f := 12) rfl ?_); refine goesL_ (some 42) rfl rfl Try.func12 zq2 rfl #[] rfl zq6 ?_; (with_reducible refine (isobathtop_works03.calls kj5  t322 _ A21.out).mono ?_); rintro e w22 ⟨rfl, hb⟩; refine ⟨_, rfl, ?_⟩; replace BK318 := zbb BK318 hb; replace BK319 := zbb BK319 hb; replace BK320 := zbb BK320 hb; replace HB := zbs HB hb; (try clear hb); (try clear hb2); (try clear hk); (try clear hi)))
     go_ret
     exact ⟨zq1, zbz⟩
    ·replace c20 := Bool.eq_false_iff.mpr c20
     subst c20
     have H1 : (isobathtop_TopInside.l0 kj5 a2 l3 0 a0_0 a0_1 a0_2 a0_3 a0_4 a0_5 a0_6 l0_7 l0_8 a1_0 a1_1 a1_2 a1_3 a1_4 a1_5 a1_6 a4_0 a4_1 a4_2 a4_3 a4_4 a4_5) = some r := by rw [if_neg (show ¬ (false = true) by decide)] at H; exact H
     clear H
     have H := H1
     clear H1
     have H' := Aside0.mk H
     clear H
     go_wp2
     go_loopg [11] kj5 (fun kq v11 w' => ∃ (x11_2 : Int), v11 = .int .i64 x11_2 ∧ Aside0 (isobathtop_TopInside.l0 kq a2 l3 x11_2 a0_0 a0_1 a0_2 a0_3 a0_4 a0_5 a0_6 l0_7 l0_8 a1_0 a1_1 a1_2 a1_3 a1_4 a1_5 a1_6 a4_0 a4_1 a4_2 a4_3 a4_4 a4_5 = some r) ∧ Aside0 (kq ≤ kj5) ∧ Aside0 (w'.heap[gb318]? = some (.cells #[.int .i64 a0_0, .int .i64 a0_1, .int .i64 a0_2, .int .i64 a0_3, .int .i64 a0_4, .int .i64 a0_5, .int .i64 a0_6, (.slice A0_7 l0_7.length c0_7), (.slice A0_8 l0_8.length c0_8)] 25 (0, 0))) ∧ Aside0 (w'.heap[gb319]? = some (.cells #[.int .i64 a1_0, .int .i64 a1_1, .int .i64 a1_2, .int .i64 a1_3, .int .i64 a1_4, .int .i64 a1_5, .int .i64 a1_6] 41 (0, 0))) ∧ Aside0 (w'.heap[gb320]? = some (.cells #[.int .i64 a4_0, .int .i64 a4_1, .int .i64 a4_2, .int .i64 a4_3, .int .i64 a4_4, .int .i64 a4_5] 44 (0, 0))) ∧ Aside0 (Below w.heap.size w w'))
     case atStart => exact ⟨(0), zq3, H', ⟨Nat.le_refl _⟩, ⟨zbf⟩, ⟨zbf⟩, ⟨zbf⟩, ⟨zbz⟩⟩
     case round =>
      as_aux_lemma =>
       clear H'
       try clear c1
       try clear c2
       try clear p2
       try clear c3
       try clear c4
       try clear c11
       try clear c12
       try clear c13
       try clear c16
       try clear c17
       try clear c20
       try clear hcz14_0 hcz14_1 hcz14_2 hcz14_3 hcz14_4 hcz14_5 hcz14_6 hcz14_7 hcz14_8
       try clear hcz18_0 hcz18_1 hcz18_2 hcz18_3 hcz18_4 hcz18_5 hcz18_6 hcz18_7 hcz18_8
       try clear hfz14_0 hfz14_1 hfz14_2 hfz14_3 hfz14_4 hfz14_5 hfz14_6 hfz14_7 hfz14_8
       try clear hfz18_0 hfz18_1 hfz18_2 hfz18_3 hfz18_4 hfz18_5 hfz18_6 hfz18_7 hfz18_8
       try clear p2
       obtain ⟨x11_2, rfl, HA, HK2, BK318, BK319, BK320, HB⟩ := hrel
       cases gk with
       | zero => exact absurd HA.out (by simp [isobathtop_TopInside.l0])
       | succ k2 =>
        have H := HA.out
        clear HA
        simp only [isobathtop_TopInside.l0] at H
        by_cases c23 : x11_2 < (l3.length : Int)
        ·rw [if_pos c23] at H
         have c23b0 : decide (x11_2 < (l3.length : Int)) = true := decide_eq_true c23
         clear c23
         by_cases c24 : 0 ≤ x11_2
         ·rw [if_pos c24] at H
          have c24b0 : decide (0 ≤ x11_2) = true := decide_eq_true c24
          clear c24
          by_cases c25 : ((rd_L9 l3 x11_2).length : Int) > 20
          ·rw [if_pos c25] at H
           have c25b0 : decide (20 < ((rd_L9 l3 x11_2).length : Int)) = true := decide_eq_true c25
           have c25b1 : decide (20 < (rd_L9 l3 x11_2).length) = true := decide_eq_true (by omega)
           clear c25
           replace H := Option.bind_eq_some_iff.mp H
           obtain ⟨t324, A260, H⟩ := H
           replace H : (some t324) = some r := H
           have A26 := Aside0.mk A260
           clear A260
           obtain rfl := Option.some.inj H
           have p323 : 0 ≤ (x11_2 : Int) := of_decide_eq_true zq4
           have q323 : x11_2 < (l3.length : Int) := of_decide_eq_true zq4
           obtain ⟨ad323, A323_0, c323_0, e323, hx323_0, hl323_0, hi323_0⟩ := at_L9 HR3.out x11_2 p323 q323
           cases e323
           replace hx323_0 := (HB.out.cell (World.block_lt_of_cell? w _ hx323_0)).trans hx323_0
           have HR323_0 := Aside0.mk hi323_0
           have HC323_0 := Aside0.mk hl323_0
           clear hi323_0 hl323_0
           replace p323 := eq_true p323
           replace q323 := eq_true q323
           go_wp2_with (first | ((with_reducible refine gate_callee (f := 12) rfl ?_); refine goesL_ (some 55) rfl rfl Try.func12 zq2 rfl #[] rfl zq6 ?_; (with_reducible refine (isobathtop_works03.calls k2  t324 _ A26.out).mono ?_); rintro e w27 ⟨rfl, hb⟩; refine ⟨_, rfl, ?_⟩; replace BK318 := zbb BK318 hb; replace BK319 := zbb BK319 hb; replace BK320 := zbb BK320 hb; replace HB := zbs HB hb; (try clear hb); (try clear hb2); (try clear hk); (try clear hi)))
           go_ret
           exact ⟨zq1, zbz⟩
          ·rw [if_neg c25] at H
           have c25b0 : decide (20 < ((rd_L9 l3 x11_2).length : Int)) = false := decide_eq_false c25
           have c25b1 : decide (20 < (rd_L9 l3 x11_2).length) = false := decide_eq_false (by omega)
           clear c25
           have H' := Aside0.mk H
           clear H
           have p323 : 0 ≤ (x11_2 : Int) := of_decide_eq_true zq4
           have q323 : x11_2 < (l3.length : Int) := of_decide_eq_true zq4
           obtain ⟨ad323, A323_0, c323_0, e323, hx323_0, hl323_0, hi323_0⟩ := at_L9 HR3.out x11_2 p323 q323
           cases e323
           replace hx323_0 := (HB.out.cell (World.block_lt_of_cell? w _ hx323_0)).trans hx323_0
           have HR323_0 := Aside0.mk hi323_0
           have HC323_0 := Aside0.mk hl323_0
           clear hi323_0 hl323_0
           replace p323 := eq_true p323
           replace q323 := eq_true q323
           go_wp2
           go_roundg k2
           case measure => have := HJ5.out; have := HK2.out; omega
           case rel => exact ⟨(wrap64 (x11_2 + 1)), zq3, H', ⟨by have := HJ5.out; have := HK2.out; omega⟩, ⟨zbf⟩, ⟨zbf⟩, ⟨zbf⟩, ⟨zbz⟩⟩
         ·rw [if_neg c24] at H
          exact absurd H (by simp)
        ·rw [if_neg c23] at H
         have c23b0 : decide (x11_2 < (l3.length : Int)) = false := decide_eq_false c23
         clear c23
         have H' := Aside0.mk H
         clear H
         go_wp2
         go_loopg [12] k2 (fun kq v12 w' => ∃ (x12_3 : Int), v12 = .int .i64 x12_3 ∧ Aside0 (isobathtop_TopInside.l1 kq a2 l3 x12_3 a0_0 a0_1 a0_2 a0_3 a0_4 a0_5 a0_6 l0_7 l0_8 a1_0 a1_1 a1_2 a1_3 a1_4 a1_5 a1_6 a4_0 a4_1 a4_2 a4_3 a4_4 a4_5 = some r) ∧ Aside0 (kq ≤ k2) ∧ Aside0 (w'.heap[gb318]? = some (.cells #[.int .i64 a0_0, .int .i64 a0_1, .int .i64 a0_2, .int .i64 a0_3, .int .i64 a0_4, .int .i64 a0_5, .int .i64 a0_6, (.slice A0_7 l0_7.length c0_7), (.slice A0_8 l0_8.length c0_8)] 25 (0, 0))) ∧ Aside0 (w'.heap[gb319]? = some (.cells #[.int .i64 a1_0, .int .i64 a1_1, .int .i64 a1_2, .int .i64 a1_3, .int .i64 a1_4, .int .i64 a1_5, .int .i64 a1_6] 41 (0, 0))) ∧ Aside0 (w'.heap[gb320]? = some (.cells #[.int .i64 a4_0, .int .i64 a4_1, .int .i64 a4_2, .int .i64 a4_3, .int .i64 a4_4, .int .i64 a4_5] 44 (0, 0))) ∧ Aside0 (Below w.heap.size w w'))
         case atStart => exact ⟨(0), zq3, H', ⟨Nat.le_refl _⟩, ⟨zbf⟩, ⟨zbf⟩, ⟨zbf⟩, ⟨zbz⟩⟩
         case round =>
          as_aux_lemma =>
           clear H'
           try clear c1
           try clear c2
           try clear p2
           try clear c3
           try clear p3
           try clear q3
           try clear hx3
           try clear c4
           try clear p6
           try clear c11
           try clear c12
           try clear c13
           try clear c16
           try clear c17
           try clear c20
           try clear c23
           try clear c23b0
           try clear c24
           try clear c24b0
           try clear c25
           try clear c25b0
           try clear c25b1
           try clear hcz14_0 hcz14_1 hcz14_2 hcz14_3 hcz14_4 hcz14_5 hcz14_6 hcz14_7 hcz14_8
           try clear hcz18_0 hcz18_1 hcz18_2 hcz18_3 hcz18_4 hcz18_5 hcz18_6 hcz18_7 hcz18_8
           try clear hfz14_0 hfz14_1 hfz14_2 hfz14_3 hfz14_4 hfz14_5 hfz14_6 hfz14_7 hfz14_8
           try clear hfz18_0 hfz18_1 hfz18_2 hfz18_3 hfz18_4 hfz18_5 hfz18_6 hfz18_7 hfz18_8
           try clear hx323_0
           try clear p2
           try clear p323
           try clear q323
           obtain ⟨x12_3, rfl, HA, HK3, BK318, BK319, BK320, HB⟩ := hrel
           cases gk with
           | zero => exact absurd HA.out (by simp [isobathtop_TopInside.l1])
           | succ k3 =>
            have H := HA.out
            clear HA
            simp only [isobathtop_TopInside.l1] at H
            by_cases c28 : x12_3 < (l3.length : Int)
            ·rw [if_pos c28] at H
             have c28b0 : decide (x12_3 < (l3.length : Int)) = true := decide_eq_true c28
             clear c28
             by_cases c29 : 0 ≤ x12_3
             ·rw [if_pos c29] at H
              have c29b0 : decide (0 ≤ x12_3) = true := decide_eq_true c29
              clear c29
              replace H := Option.bind_eq_some_iff.mp H
              obtain ⟨⟨t326, t327⟩, A300, H⟩ := H
              replace H : (if t327 = 0 then (isobathtop_TopInside.l2 k3 a2 l3 x12_3 t326 ([] : List Int) 0 a0_0 a0_1 a0_2 a0_3 a0_4 a0_5 a0_6 l0_7 l0_8 a1_0 a1_1 a1_2 a1_3 a1_4 a1_5 a1_6 a4_0 a4_1 a4_2 a4_3 a4_4 a4_5) else (if t326 = 0 then (isobathtop_TopInside.l1 k3 a2 l3 (wrap64 (x12_3 + 1)) a0_0 a0_1 a0_2 a0_3 a0_4 a0_5 a0_6 l0_7 l0_8 a1_0 a1_1 a1_2 a1_3 a1_4 a1_5 a1_6 a4_0 a4_1 a4_2 a4_3 a4_4 a4_5) else (some false))) = some r := H
              have A30 := Aside0.mk A300
              clear A300
              by_cases c31 : t327 = 0
              ·rw [if_pos c31] at H
               have c31b0 : (t327 == 0) = true := beq_iff_eq.mpr c31
               have c31b1 : (t327 != 0) = false := bne_eq_false_iff_eq.mpr c31
               clear c31
               have H' := Aside0.mk H
               clear H
               try go_wp2
               replace BK318 := Aside0.mk (blk_drew BK318.out)
               replace BK319 := Aside0.mk (blk_drew BK319.out)
               replace BK320 := Aside0.mk (blk_drew BK320.out)
               replace HB := Aside0.mk (below_drew1 HB.out)
               have p325 : 0 ≤ (x12_3 : Int) := of_decide_eq_true zq4
               have q325 : x12_3 < (l3.length : Int) := of_decide_eq_true zq4
               obtain ⟨ad325, A325_0, c325_0, e325, hx325_0, hl325_0, hi325_0⟩ := at_L9 HR3.out x12_3 p325 q325
               have hw325_0 := hx325_0
               cases e325
               replace hx325_0 := (HB.out.cell (World.block_lt_of_cell? w _ hx325_0)).trans hx325_0
               have HR325_0 := Aside0.mk hi325_0
               have HC325_0 := Aside0.mk hl325_0
               clear hi325_0 hl325_0
               replace p325 := eq_true p325
               replace q325 := eq_true q325
               refine start_ (n := 13) (S := fun w' => w'.cell? ⟨gb319, 0, none⟩ = some (.int .i64 a1_0) ∧ w'.cell? ⟨gb319, 1, none⟩ = some (.int .i64 a1_1) ∧ w'.cell? ⟨gb319, 2, none⟩ = some (.int .i64 a1_2) ∧ w'.cell? ⟨gb319, 3, none⟩ = some (.int .i64 a1_3) ∧ w'.cell? ⟨gb319, 4, none⟩ = some (.int .i64 a1_4) ∧ w'.cell? ⟨gb319, 5, none⟩ = some (.int .i64 a1_5) ∧ w'.cell? ⟨gb319, 6, none⟩ = some (.int .i64 a1_6) ∧ w'.cell? ⟨gb320, 0, none⟩ = some (.int .i64 a4_0) ∧ w'.cell? ⟨gb320, 1, none⟩ = some (.int .i64 a4_1) ∧ w'.cell? ⟨gb320, 2, none⟩ = some (.int .i64 a4_2) ∧ w'.cell? ⟨gb320, 3, none⟩ = some (.int .i64 a4_3) ∧ w'.cell? ⟨gb320, 4, none⟩ = some (.int .i64 a4_4) ∧ w'.cell? ⟨gb320, 5, none⟩ = some (.int .i64 a4_5) ∧ w'.cell? (ad325.add (x12_3).toNat) = some (.slice A325_0 (rd_L9 l3 x12_3).length c325_0)) (ds := []) #[false, false, false, false, false, false, false, false, false, false, false, false, false] zq2 rfl rfl (zca7 BK319.out (zca6 BK320.out ((HB.out.cell (World.block_lt_of_cell? w _ hw325_0)).trans hw325_0))) (fun hHeld => ?_); refine with_tabW isobathtop_TopInside.tab11 isobathtop_TopInside.bits11 (fun HT_ HW_ => ?_)
               generalize wr.drew = w32 at BK318 BK319 BK320 HB HR325_0 hx325_0 hHeld ⊢
               refine zpz (i := 1) (N := some 64) (any_of HT_.out zq2) ?_
               refine zpz (i := 2) (N := some 65) (any_of HT_.out zq2) ?_
               refine zpz (i := 3) (N := some 66) (any_of HT_.out zq2) ?_
               refine zpz (i := 4) (N := some 67) (any_of HT_.out zq2) ?_
               refine ztz (i := 0) (N := some 63) (take_ofW HT_.out HW_.out zq2) hHeld ?_
               refine ztz (i := 5) (N := some 68) (take_ofW HT_.out HW_.out zq2) hHeld ?_
               refine ztz (i := 6) (N := some 69) (take_ofW HT_.out HW_.out zq2) hHeld ?_
               refine one_ (i := 7) (N := some 70) #[true, true, true, true, true, true, true, true, false, false, false, false, false] rfl rfl (one_of HT_.out zq2) (by decide) (fun K hK => ?_)
               refine goes_ Try.func17 zq2 rfl #[.agg #[.int .i64 a1_0, .int .i64 a1_1, .int .i64 a1_2, .int .i64 a1_3, .int .i64 a1_4, .int .i64 a1_5, .int .i64 a1_6], .int .i64 a2, .slice A325_0 (rd_L9 l3 x12_3).length c325_0, .agg #[.int .i64 a4_0, .int .i64 a4_1, .int .i64 a4_2, .int .i64 a4_3, .int .i64 a4_4, .int .i64 a4_5]] (by rfl) rfl rfl zq6 ?_
               with_reducible refine (glider_Fetched.calls k3 a1_0 a1_1 a1_2 a1_3 a1_4 a1_5 a1_6 a2 _ _ (rd_L9 l3 x12_3) a4_0 a4_1 a4_2 a4_3 a4_4 a4_5 t326 t327 _ ?side1 ?side2 A30.out).mono ?_
               (case side1 => repeat (first | exact (Kd.C_below HR325_0.out HB.out) | (with_reducible refine Kd.C_alloc ?_ _) | (with_reducible refine Kd.C_drewN ?_ _) | (with_reducible refine Kd.C_drew ?_)))
               (case side2 => exact HC325_0.out)
               rintro e w33 ⟨rfl, hb⟩
               refine ⟨_, rfl, ?_⟩
               replace BK318 := zbb BK318 hb
               replace BK319 := zbb BK319 hb
               replace BK320 := zbb BK320 hb
               replace HB := zbs HB hb
               (try clear hb)
               (try clear hb2)
               (try clear hk)
               (try clear hi)
               refine hK.out _ _ (zca7 BK319.out (zca6 BK320.out ((HB.out.cell (World.block_lt_of_cell? w _ hw325_0)).trans hw325_0))) (fun hHeld => ?_)
               clear hK K
               refine norm_ zq27 ?_
               refine zpz (i := 8) (N := some 62) (any_of HT_.out zq2) ?_
               refine zpz (i := 9) (N := some 71) (any_of HT_.out zq2) ?_
               refine zpz (i := 10) (N := some 72) (any_of HT_.out zq2) ?_
               refine zpz (i := 11) (N := some 13) (any_of HT_.out zq2) ?_
               refine zpz (i := 12) (N := some 14) (any_of HT_.out zq2) ?_
               refine done_ (done_of HT_.out zq2) ?_
               try go_wp2
               go_loopg [15, 16] k3 (fun kq v15 v16 w' => ∃ (x15_4 : List Int) (x16_4 : Int), v16 = .int .i64 x16_4 ∧ Aside0 (isobathtop_TopInside.l2 kq a2 l3 x12_3 t326 x15_4 x16_4 a0_0 a0_1 a0_2 a0_3 a0_4 a0_5 a0_6 l0_7 l0_8 a1_0 a1_1 a1_2 a1_3 a1_4 a1_5 a1_6 a4_0 a4_1 a4_2 a4_3 a4_4 a4_5 = some r) ∧ Aside0 (kq ≤ k3) ∧ Aside0 (Kd.R (Kd.int .i64) 46 w' w.heap.size (fun _ => True) v15 x15_4) ∧ Aside0 (w'.heap[gb318]? = some (.cells #[.int .i64 a0_0, .int .i64 a0_1, .int .i64 a0_2, .int .i64 a0_3, .int .i64 a0_4, .int .i64 a0_5, .int .i64 a0_6, (.slice A0_7 l0_7.length c0_7), (.slice A0_8 l0_8.length c0_8)] 25 (0, 0))) ∧ Aside0 (w'.heap[gb319]? = some (.cells #[.int .i64 a1_0, .int .i64 a1_1, .int .i64 a1_2, .int .i64 a1_3, .int .i64 a1_4, .int .i64 a1_5, .int .i64 a1_6] 41 (0, 0))) ∧ Aside0 (w'.heap[gb320]? = some (.cells #[.int .i64 a4_0, .int .i64 a4_1, .int .i64 a4_2, .int .i64 a4_3, .int .i64 a4_4, .int .i64 a4_5] 44 (0, 0))) ∧ Aside0 (Below w.heap.size w w'))
               case atStart => exact ⟨(([] : List Int)), (0), zq3, H', ⟨Nat.le_refl _⟩, ⟨zq25⟩, ⟨zbf⟩, ⟨zbf⟩, ⟨zbf⟩, ⟨zbz⟩⟩
               case round =>
                as_aux_lemma =>
                 clear H'
                 try clear c1
                 try clear c2
                 try clear p2
                 try clear c3
                 try clear p3
                 try clear q3
                 try clear hx3
                 try clear c4
                 try clear p6
                 try clear c11
                 try clear c12
                 try clear c13
                 try clear c16
                 try clear c17
                 try clear c20
                 try clear c23
                 try clear c23b0
                 try clear c24
                 try clear c24b0
                 try clear c25
                 try clear c25b0
                 try clear c25b1
                 try clear c28
                 try clear c28b0
                 try clear c29
                 try clear c29b0
                 try clear c31
                 try clear c31b0
                 try clear c31b1
                 try clear c32
                 try clear p32
                 try clear q32
                 try clear hx32
                 try clear hcz14_0 hcz14_1 hcz14_2 hcz14_3 hcz14_4 hcz14_5 hcz14_6 hcz14_7 hcz14_8
                 try clear hcz18_0 hcz18_1 hcz18_2 hcz18_3 hcz18_4 hcz18_5 hcz18_6 hcz18_7 hcz18_8
                 try clear hfz14_0 hfz14_1 hfz14_2 hfz14_3 hfz14_4 hfz14_5 hfz14_6 hfz14_7 hfz14_8
                 try clear hfz18_0 hfz18_1 hfz18_2 hfz18_3 hfz18_4 hfz18_5 hfz18_6 hfz18_7 hfz18_8
                 try clear hx323_0
                 try clear hx325_0
                 try clear p2
                 try clear p3
                 try clear p323
                 try clear p325
                 try clear p6
                 try clear q3
                 try clear q323
                 try clear q325
                 obtain ⟨x15_4, x16_4, rfl, HA, HK4, HO_15, BK318, BK319, BK320, HB⟩ := hrel
                 cases gk with
                 | zero => exact absurd HA.out (by simp [isobathtop_TopInside.l2])
                 | succ k4 =>
                  have H := HA.out
                  clear HA
                  simp only [isobathtop_TopInside.l2] at H
                  by_cases c34 : 0 ≤ x12_3
                  ·rw [if_pos c34] at H
                   have c34b0 : decide (0 ≤ x12_3) = true := decide_eq_true c34
                   clear c34
                   by_cases c35 : x12_3 < (l3.length : Int)
                   ·rw [if_pos c35] at H
                    have c35b0 : decide (x12_3 < (l3.length : Int)) = true := decide_eq_true c35
                    clear c35
                    by_cases c36 : x16_4 < ((rd_L9 l3 x12_3).length : Int)
                    ·rw [if_pos c36] at H
                     have c36b0 : decide (x16_4 < ((rd_L9 l3 x12_3).length : Int)) = true := decide_eq_true c36
                     clear c36
                     have HC37 := Aside0.mk H
                     clear H
                     have p328 : 0 ≤ (x12_3 : Int) := of_decide_eq_true zq4
                     have q328 : x12_3 < (l3.length : Int) := of_decide_eq_true zq4
                     obtain ⟨ad328, A328_0, c328_0, e328, hx328_0, hl328_0, hi328_0⟩ := at_L9 HR3.out x12_3 p328 q328
                     obtain rfl : ad325 = ad328 := (by injection e328)
                     replace hx328_0 := (HB.out.cell (World.block_lt_of_cell? w _ hx328_0)).trans hx328_0
                     have HR328_0 := Aside0.mk hi328_0
                     have HC328_0 := Aside0.mk hl328_0
                     clear hi328_0 hl328_0
                     replace p328 := eq_true p328
                     replace q328 := eq_true q328
                     have hnb38 := NB319_318.out
                     have hnc38 := NB318_319.out
                     have hnb39 := NB319_320.out
                     have hnc39 := NB320_319.out
                     obtain ⟨hcz40_0, hcz40_1, hcz40_2, hcz40_3, hcz40_4, hcz40_5, hcz40_6, hfz40_0, hfz40_1, hfz40_2, hfz40_3, hfz40_4, hfz40_5, hfz40_6⟩ := zce7 BK319.out
                     go_upto_region 20 with (fail)
                     go_cut [102] (fun v102 wc => ∃ (kq : Nat) (x102_36 : Bool), v102 = .bool x102_36 ∧ Aside0 (isobathtop_TopInside.j4 kq a2 l3 x12_3 t326 x15_4 x16_4 x102_36 a0_0 a0_1 a0_2 a0_3 a0_4 a0_5 a0_6 l0_7 l0_8 a1_0 a1_1 a1_2 a1_3 a1_4 a1_5 a1_6 a4_0 a4_1 a4_2 a4_3 a4_4 a4_5 = some r) ∧ Aside0 (kq ≤ k4) ∧ Aside0 (Kd.R (Kd.int .i64) 46 wc w.heap.size (fun _ => True) u15 x15_4) ∧ Aside0 (wc.heap[gb318]? = some (.cells #[.int .i64 a0_0, .int .i64 a0_1, .int .i64 a0_2, .int .i64 a0_3, .int .i64 a0_4, .int .i64 a0_5, .int .i64 a0_6, (.slice A0_7 l0_7.length c0_7), (.slice A0_8 l0_8.length c0_8)] 25 (0, 0))) ∧ Aside0 (wc.heap[gb319]? = some (.cells #[.int .i64 a1_0, .int .i64 a1_1, .int .i64 a1_2, .int .i64 a1_3, .int .i64 a1_4, .int .i64 a1_5, .int .i64 a1_6] 41 (0, 0))) ∧ Aside0 (wc.heap[gb320]? = some (.cells #[.int .i64 a4_0, .int .i64 a4_1, .int .i64 a4_2, .int .i64 a4_3, .int .i64 a4_4, .int .i64 a4_5] 44 (0, 0))) ∧ Aside0 (Below w.heap.size w wc))
                     case first =>
                      as_aux_lemma =>
                       have H := HC37.out
                       clear HC37
                       by_cases c41 : (wrap64 (a2 + (wrap64 ((wrap64 (x16_4 + 1)) * a1_1)))) < a4_4
                       ·rw [if_pos c41] at H
                        have c41b0 : decide ((wrap64 (a2 + (wrap64 ((wrap64 (x16_4 + 1)) * a1_1)))) < a4_4) = true := decide_eq_true c41
                        clear c41
                        (first | rw [c41b0] | (simp only [i64_w, i32_w]; rw [c41b0]) | skip)
                        have H' := Aside0.mk H
                        clear H
                        have hnb42 := NB320_318.out
                        have hnc42 := NB318_320.out
                        have hnb43 := NB320_319.out
                        have hnc43 := NB319_320.out
                        obtain ⟨hcz44_0, hcz44_1, hcz44_2, hcz44_3, hcz44_4, hcz44_5, hfz44_0, hfz44_1, hfz44_2, hfz44_3, hfz44_4, hfz44_5⟩ := zce6 BK320.out
                        go_wp2
                        go_meet
                        case rel => exact ⟨_, (true), zq3, H', ⟨by have := HJ5.out; have := HK2.out; have := HK3.out; have := HK4.out; first | omega | exact Nat.le_refl _⟩, ⟨zq28⟩, ⟨zbf⟩, ⟨zbf⟩, ⟨zbf⟩, ⟨zbz⟩⟩
                       ·rw [if_neg c41] at H
                        have c41b0 : decide ((wrap64 (a2 + (wrap64 ((wrap64 (x16_4 + 1)) * a1_1)))) < a4_4) = false := decide_eq_false c41
                        clear c41
                        (first | rw [c41b0] | (simp only [i64_w, i32_w]; rw [c41b0]) | skip)
                        have H' := Aside0.mk H
                        clear H
                        have hnb45 := NB320_318.out
                        have hnc45 := NB318_320.out
                        have hnb46 := NB320_319.out
                        have hnc46 := NB319_320.out
                        obtain ⟨hcz47_0, hcz47_1, hcz47_2, hcz47_3, hcz47_4, hcz47_5, hfz47_0, hfz47_1, hfz47_2, hfz47_3, hfz47_4, hfz47_5⟩ := zce6 BK320.out
                        go_wp2
                        go_meet
                        case rel => exact ⟨_, (decide ((wrap64 (a2 + (wrap64 ((wrap64 (x16_4 + 1)) * a1_1)))) > a4_5)), zq3, H', ⟨by have := HJ5.out; have := HK2.out; have := HK3.out; have := HK4.out; first | omega | exact Nat.le_refl _⟩, ⟨zq28⟩, ⟨zbf⟩, ⟨zbf⟩, ⟨zbf⟩, ⟨zbz⟩⟩
                     case rest =>
                      as_aux_lemma =>
                       clear HC37
                       try clear c1
                       try clear c2
                       try clear p2
                       try clear c3
                       try clear p3
                       try clear q3
                       try clear hx3
                       try clear c4
                       try clear p6
                       try clear c11
                       try clear c12
                       try clear c13
                       try clear c16
                       try clear c17
                       try clear c20
                       try clear c23
                       try clear c23b0
                       try clear c24
                       try clear c24b0
                       try clear c25
                       try clear c25b0
                       try clear c25b1
                       try clear c28
                       try clear c28b0
                       try clear c29
                       try clear c29b0
                       try clear c31
                       try clear c31b0
                       try clear c31b1
                       try clear c32
                       try clear p32
                       try clear q32
                       try clear hx32
                       try clear c34
                       try clear c34b0
                       try clear c35
                       try clear c35b0
                       try clear c36
                       try clear c36b0
                       try clear c38
                       try clear c39
                       try clear c41
                       try clear c41b0
                       try clear c42
                       try clear c43
                       try clear c45
                       try clear c46
                       try clear hcz14_0 hcz14_1 hcz14_2 hcz14_3 hcz14_4 hcz14_5 hcz14_6 hcz14_7 hcz14_8
                       try clear hcz18_0 hcz18_1 hcz18_2 hcz18_3 hcz18_4 hcz18_5 hcz18_6 hcz18_7 hcz18_8
                       try clear hcz40_0 hcz40_1 hcz40_2 hcz40_3 hcz40_4 hcz40_5 hcz40_6
                       try clear hcz44_0 hcz44_1 hcz44_2 hcz44_3 hcz44_4 hcz44_5
                       try clear hcz47_0 hcz47_1 hcz47_2 hcz47_3 hcz47_4 hcz47_5
                       try clear hfz14_0 hfz14_1 hfz14_2 hfz14_3 hfz14_4 hfz14_5 hfz14_6 hfz14_7 hfz14_8
                       try clear hfz18_0 hfz18_1 hfz18_2 hfz18_3 hfz18_4 hfz18_5 hfz18_6 hfz18_7 hfz18_8
                       try clear hfz40_0 hfz40_1 hfz40_2 hfz40_3 hfz40_4 hfz40_5 hfz40_6
                       try clear hfz44_0 hfz44_1 hfz44_2 hfz44_3 hfz44_4 hfz44_5
                       try clear hfz47_0 hfz47_1 hfz47_2 hfz47_3 hfz47_4 hfz47_5
                       try clear hx323_0
                       try clear hx325_0
                       try clear hx328_0
                       try clear p2
                       try clear p3
                       try clear p32
                       try clear p323
                       try clear p325
                       try clear p328
                       try clear p6
                       try clear q3
                       try clear q32
                       try clear q323
                       try clear q325
                       try clear q328
                       obtain ⟨kq, x102_36, rfl, HA, HJ36, HO_15, BK318, BK319, BK320, HB⟩ := hcut
                       cases kq with
                       | zero => exact absurd HA.out (by simp [isobathtop_TopInside.j4])
                       | succ kj36 =>
                        have H := HA.out
                        clear HA
                        simp only [isobathtop_TopInside.j4] at H
                        by_cases c48 : x102_36 = true
                        ·subst c48
                         have H1 : (isobathtop_TopInside.l2 kj36 a2 l3 x12_3 t326 x15_4 (wrap64 (x16_4 + 1)) a0_0 a0_1 a0_2 a0_3 a0_4 a0_5 a0_6 l0_7 l0_8 a1_0 a1_1 a1_2 a1_3 a1_4 a1_5 a1_6 a4_0 a4_1 a4_2 a4_3 a4_4 a4_5) = some r := by rw [if_pos rfl] at H; exact H
                         clear H
                         have H := H1
                         clear H1
                         have H' := Aside0.mk H
                         clear H
                         go_wp2
                         go_roundg kj36
                         case measure => have := HJ5.out; have := HK2.out; have := HK3.out; have := HK4.out; have := HJ36.out; omega
                         case rel => exact ⟨(x15_4), (wrap64 (x16_4 + 1)), zq3, H', ⟨by have := HJ5.out; have := HK2.out; have := HK3.out; have := HK4.out; have := HJ36.out; omega⟩, ⟨zq28⟩, ⟨zbf⟩, ⟨zbf⟩, ⟨zbf⟩, ⟨zbz⟩⟩
                        ·replace c48 := Bool.eq_false_iff.mpr c48
                         subst c48
                         have H1 : (if 0 ≤ x12_3 then (if x12_3 < (l3.length : Int) then (if 0 ≤ x16_4 then (if x16_4 < ((rd_L9 l3 x12_3).length : Int) then ((isobathtop_within.f kj36 ((rd_T29 (rd_L9 l3 x12_3) x16_4).f0.f0) ((rd_T29 (rd_L9 l3 x12_3) x16_4).f0.f1) ((rd_T29 (rd_L9 l3 x12_3) x16_4).f1.f0) ((rd_T29 (rd_L9 l3 x12_3) x16_4).f1.f1) a4_0 a4_1 a4_2 a4_3).bind fun bt333 => (if bt333.2 = true then (if x15_4.length < 17592186044416 then (isobathtop_TopInside.l2 kj36 a2 l3 x12_3 t326 (x15_4 ++ [bt333.1]) (wrap64 (x16_4 + 1)) a0_0 a0_1 a0_2 a0_3 a0_4 a0_5 a0_6 l0_7 l0_8 a1_0 a1_1 a1_2 a1_3 a1_4 a1_5 a1_6 a4_0 a4_1 a4_2 a4_3 a4_4 a4_5) else (none)) else (some false))) else (none)) else (none)) else (none)) else (none)) = some r := by rw [if_neg (show ¬ (false = true) by decide)] at H; exact H
                         clear H
                         have H := H1
                         clear H1
                         by_cases c49 : 0 ≤ x12_3
                         ·rw [if_pos c49] at H
                          have c49b0 : decide (0 ≤ x12_3) = true := decide_eq_true c49
                          clear c49
                          by_cases c50 : x12_3 < (l3.length : Int)
                          ·rw [if_pos c50] at H
                           have c50b0 : decide (x12_3 < (l3.length : Int)) = true := decide_eq_true c50
                           clear c50
                           by_cases c51 : 0 ≤ x16_4
                           ·rw [if_pos c51] at H
                            have c51b0 : decide (0 ≤ x16_4) = true := decide_eq_true c51
                            clear c51
                            by_cases c52 : x16_4 < ((rd_L9 l3 x12_3).length : Int)
                            ·rw [if_pos c52] at H
                             have c52b0 : decide (x16_4 < ((rd_L9 l3 x12_3).length : Int)) = true := decide_eq_true c52
                             clear c52
                             replace H := Option.bind_eq_some_iff.mp H
                             obtain ⟨⟨t333, t334⟩, A530, H⟩ := H
                             replace H : (if t334 = true then (if x15_4.length < 17592186044416 then (isobathtop_TopInside.l2 kj36 a2 l3 x12_3 t326 (x15_4 ++ [t333]) (wrap64 (x16_4 + 1)) a0_0 a0_1 a0_2 a0_3 a0_4 a0_5 a0_6 l0_7 l0_8 a1_0 a1_1 a1_2 a1_3 a1_4 a1_5 a1_6 a4_0 a4_1 a4_2 a4_3 a4_4 a4_5) else (none)) else (some false)) = some r := H
                             have A53 := Aside0.mk A530
                             clear A530
                             by_cases c54 : t334 = true
                             ·subst c54
                              have H1 : (if x15_4.length < 17592186044416 then (isobathtop_TopInside.l2 kj36 a2 l3 x12_3 t326 (x15_4 ++ [t333]) (wrap64 (x16_4 + 1)) a0_0 a0_1 a0_2 a0_3 a0_4 a0_5 a0_6 l0_7 l0_8 a1_0 a1_1 a1_2 a1_3 a1_4 a1_5 a1_6 a4_0 a4_1 a4_2 a4_3 a4_4 a4_5) else (none)) = some r := by rw [if_pos rfl] at H; exact H
                              clear H
                              have H := H1
                              clear H1
                              by_cases c55 : x15_4.length < 17592186044416
                              ·rw [if_pos c55] at H
                               have LMc55 := Aside0.mk c55
                               clear c55
                               obtain ⟨y335, hy335⟩ : ∃ y_ : List Int, y_ = (x15_4 ++ [t333]) := ⟨_, rfl⟩
                               replace H : (isobathtop_TopInside.l2 kj36 a2 l3 x12_3 t326 y335 (wrap64 (x16_4 + 1)) a0_0 a0_1 a0_2 a0_3 a0_4 a0_5 a0_6 l0_7 l0_8 a1_0 a1_1 a1_2 a1_3 a1_4 a1_5 a1_6 a4_0 a4_1 a4_2 a4_3 a4_4 a4_5) = some r := by first | (rw [hy335]; with_reducible exact H) | (have H2_ := (Option.bind_some _ _).symm.trans H; rw [hy335]; with_reducible exact H2_) | (have H2_ := (Option.bind_some _ _).symm.trans H; with_reducible exact H2_) | with_reducible exact H | (rw [hy335]; exact H) | exact H
                               have Ny335 := Aside0.mk hy335
                               clear hy335
                               have H' := Aside0.mk H
                               clear H
                               try go_wp2
                               replace HO_15 := Aside0.mk (Kd.R_drew HO_15.out)
                               replace BK318 := Aside0.mk (blk_drew BK318.out)
                               replace BK319 := Aside0.mk (blk_drew BK319.out)
                               replace BK320 := Aside0.mk (blk_drew BK320.out)
                               replace HB := Aside0.mk (below_drew1 HB.out)
                               have p331 : 0 ≤ (x12_3 : Int) := of_decide_eq_true zq4
                               have q331 : x12_3 < (l3.length : Int) := of_decide_eq_true zq4
                               obtain ⟨ad331, A331_0, c331_0, e331, hx331_0, hl331_0, hi331_0⟩ := at_L9 HR3.out x12_3 p331 q331
                               have hw331_0 := hx331_0
                               obtain rfl : ad325 = ad331 := (by injection e331)
                               replace hx331_0 := (HB.out.cell (World.block_lt_of_cell? w _ hx331_0)).trans hx331_0
                               have HR331_0 := Aside0.mk hi331_0
                               have HC331_0 := Aside0.mk hl331_0
                               clear hi331_0 hl331_0
                               replace p331 := eq_true p331
                               replace q331 := eq_true q331
                               have p332 : 0 ≤ (x16_4 : Int) := of_decide_eq_true zq4
                               have q332 : x16_4 < ((rd_L9 l3 x12_3).length : Int) := of_decide_eq_true zq4
                               obtain ⟨ad332, e332, hx332_0, hx332_1, hx332_2, hx332_3⟩ := at_T29 HR331_0.out x16_4 p332 q332
                               have hw332_3 := hx332_3
                               have hw332_2 := hx332_2
                               have hw332_1 := hx332_1
                               have hw332_0 := hx332_0
                               cases e332
                               replace hx332_0 := (HB.out.cell (World.block_lt_of_cell? w _ hx332_0)).trans hx332_0
                               replace hx332_1 := (HB.out.cell (World.block_lt_of_cell? w _ hx332_1)).trans hx332_1
                               replace hx332_2 := (HB.out.cell (World.block_lt_of_cell? w _ hx332_2)).trans hx332_2
                               replace hx332_3 := (HB.out.cell (World.block_lt_of_cell? w _ hx332_3)).trans hx332_3
                               replace p332 := eq_true p332
                               replace q332 := eq_true q332
                               refine start_ (n := 15) (S := fun w' => w'.cell? ⟨gb320, 0, none⟩ = some (.int .i64 a4_0) ∧ w'.cell? ⟨gb320, 1, none⟩ = some (.int .i64 a4_1) ∧ w'.cell? ⟨gb320, 2, none⟩ = some (.int .i64 a4_2) ∧ w'.cell? ⟨gb320, 3, none⟩ = some (.int .i64 a4_3) ∧ w'.cell? ⟨gb320, 4, none⟩ = some (.int .i64 a4_4) ∧ w'.cell? ⟨gb320, 5, none⟩ = some (.int .i64 a4_5) ∧ w'.cell? (ad325.add (x12_3).toNat) = some (.slice (some ad332) (rd_L9 l3 x12_3).length c331_0) ∧ w'.cell? (ad332.add ((x16_4).toNat * 4)) = some (.int .i64 ((rd_T29 (rd_L9 l3 x12_3) x16_4).f0.f0)) ∧ w'.cell? ⟨(ad332.add ((x16_4).toNat * 4)).block, (ad332.add ((x16_4).toNat * 4)).off + 1, none⟩ = some (.int .i64 ((rd_T29 (rd_L9 l3 x12_3) x16_4).f0.f1)) ∧ w'.cell? ⟨(ad332.add ((x16_4).toNat * 4)).block, (ad332.add ((x16_4).toNat * 4)).off + 2, none⟩ = some (.int .i64 ((rd_T29 (rd_L9 l3 x12_3) x16_4).f1.f0)) ∧ w'.cell? ⟨(ad332.add ((x16_4).toNat * 4)).block, (ad332.add ((x16_4).toNat * 4)).off + 3, none⟩ = some (.int .i64 ((rd_T29 (rd_L9 l3 x12_3) x16_4).f1.f1))) (ds := []) #[false, false, false, false, false, false, false, false, false, false, false, false, false, false, false] zq2 rfl rfl (zca6 BK320.out ⟨((HB.out.cell (World.block_lt_of_cell? w _ hw331_0)).trans hw331_0), ((HB.out.cell (World.block_lt_of_cell? w _ hw332_0)).trans hw332_0), ((HB.out.cell (World.block_lt_of_cell? w _ hw332_1)).trans hw332_1), ((HB.out.cell (World.block_lt_of_cell? w _ hw332_2)).trans hw332_2), ((HB.out.cell (World.block_lt_of_cell? w _ hw332_3)).trans hw332_3)⟩) (fun hHeld => ?_); refine with_tabW isobathtop_TopInside.tab21 isobathtop_TopInside.bits21 (fun HT_ HW_ => ?_)
                               generalize wc.drew = w56 at HO_15 BK318 BK319 BK320 HB HR331_0 hx331_0 hx332_0 hx332_1 hx332_2 hx332_3 hHeld ⊢
                               refine zpz (i := 0) (N := some 104) (any_of HT_.out zq2) ?_
                               refine zpz (i := 1) (N := some 105) (any_of HT_.out zq2) ?_
                               refine zpz (i := 2) (N := some 106) (any_of HT_.out zq2) ?_
                               refine zpz (i := 4) (N := some 108) (any_of HT_.out zq2) ?_
                               refine zpz (i := 7) (N := some 111) (any_of HT_.out zq2) ?_
                               refine ztz (i := 3) (N := some 107) (take_ofW HT_.out HW_.out zq2) hHeld ?_
                               refine zpz (i := 5) (N := some 109) (any_of HT_.out zq2) ?_
                               refine ztz (i := 6) (N := some 110) (take_ofW HT_.out HW_.out zq2) hHeld ?_
                               refine ztz (i := 8) (N := some 112) (take_ofW HT_.out HW_.out zq2) hHeld ?_
                               refine one_ (i := 9) (N := some 113) #[true, true, true, true, true, true, true, true, true, true, false, false, false, false, false] rfl rfl (one_of HT_.out zq2) (by decide) (fun K hK => ?_)
                               refine goes_ Try.func18 zq2 rfl #[.agg #[.int .i64 ((rd_T29 (rd_L9 l3 x12_3) x16_4).f0.f0), .int .i64 ((rd_T29 (rd_L9 l3 x12_3) x16_4).f0.f1), .int .i64 ((rd_T29 (rd_L9 l3 x12_3) x16_4).f1.f0), .int .i64 ((rd_T29 (rd_L9 l3 x12_3) x16_4).f1.f1)], .agg #[.int .i64 a4_0, .int .i64 a4_1, .int .i64 a4_2, .int .i64 a4_3]] (by rfl) rfl rfl zq6 ?_
                               with_reducible refine (isobathtop_within.calls kj36 ((rd_T29 (rd_L9 l3 x12_3) x16_4).f0.f0) ((rd_T29 (rd_L9 l3 x12_3) x16_4).f0.f1) ((rd_T29 (rd_L9 l3 x12_3) x16_4).f1.f0) ((rd_T29 (rd_L9 l3 x12_3) x16_4).f1.f1) a4_0 a4_1 a4_2 a4_3 t333 true _ A53.out).mono ?_
                               rintro e w57 ⟨rfl, hb⟩
                               refine ⟨_, rfl, ?_⟩
                               replace HO_15 := zrb HO_15 hb
                               replace BK318 := zbb BK318 hb
                               replace BK319 := zbb BK319 hb
                               replace BK320 := zbb BK320 hb
                               replace HB := zbs HB hb
                               (try clear hb)
                               (try clear hb2)
                               (try clear hk)
                               (try clear hi)
                               refine hK.out _ _ (zca6 BK320.out ⟨((HB.out.cell (World.block_lt_of_cell? w _ hw331_0)).trans hw331_0), ((HB.out.cell (World.block_lt_of_cell? w _ hw332_0)).trans hw332_0), ((HB.out.cell (World.block_lt_of_cell? w _ hw332_1)).trans hw332_1), ((HB.out.cell (World.block_lt_of_cell? w _ hw332_2)).trans hw332_2), ((HB.out.cell (World.block_lt_of_cell? w _ hw332_3)).trans hw332_3)⟩) (fun hHeld => ?_)
                               clear hK K
                               refine norm_ (by show Act.put _ (some 113) _ = _; simp only [Act.put, List.setIfInBounds_toArray, List.set_cons_zero, List.set_cons_succ, i64_w, i32_w]; rfl) ?_
                               refine zpz (i := 10) (N := some 103) (any_of HT_.out zq2) ?_
                               refine zpz (i := 11) (N := some 114) (any_of HT_.out zq2) ?_
                               refine zpz (i := 12) (N := some 115) (any_of HT_.out zq2) ?_
                               refine zpz (i := 13) (N := some 18) (any_of HT_.out zq2) ?_
                               refine zpz (i := 14) (N := some 19) (any_of HT_.out zq2) ?_
                               refine done_ (done_of HT_.out zq2) ?_
                               try go_wp2_with (first | ((with_reducible refine gate_builtin (b := .append) (xs := #[.tmp 118, .tmp 120]) rfl ?_); (try (refine gate_guard (by rfl) ?_; dsimp only)); at_builtin; refine Kd.R_append (Kd.int .i64) (w0 := w) w.heap.size rfl (.tmp 118) (.tmp 120) 49 46 (.int .i64 0) 8 rfl Try.underlying49 info46 rfl (by decide) (by omega) u15 x15_4 t333 [.int .i64 t333] (fun _ => True) (fun _ => False) rfl rfl ?aP (fun _ hk => hk.elim) ?aF ?aO ?aB ?aS ?aL ?_; (case aP => exact rfl); (case aB => exact zbz); (case aF => exact (fun _ _ => trivial)); (case aO => exact zq28); (case aS => exact (below_size zbz)); (case aL => have := LMc55.out; omega); intro v336 w58 ho hb hg hat; rw [← Ny335.out] at ho; have n0_ := Aside0.mk (blk_grown (g := gb318) (o := .cells #[.int .i64 a0_0, .int .i64 a0_1, .int .i64 a0_2, .int .i64 a0_3, .int .i64 a0_4, .int .i64 a0_5, .int .i64 a0_6, .slice A0_7 l0_7.length c0_7, .slice A0_8 l0_8.length c0_8] 25 (0, 0)) zbf hg (Kd.R_ne HO_15.out BK318.out (by decide))); have n1_ := Aside0.mk (blk_grown (g := gb319) (o := .cells #[.int .i64 a1_0, .int .i64 a1_1, .int .i64 a1_2, .int .i64 a1_3, .int .i64 a1_4, .int .i64 a1_5, .int .i64 a1_6] 41 (0, 0)) zbf hg (Kd.R_ne HO_15.out BK319.out (by decide))); have n2_ := Aside0.mk (blk_grown (g := gb320) (o := .cells #[.int .i64 a4_0, .int .i64 a4_1, .int .i64 a4_2, .int .i64 a4_3, .int .i64 a4_4, .int .i64 a4_5] 44 (0, 0)) zbf hg (Kd.R_ne HO_15.out BK320.out (by decide))); have n3_ := Aside0.mk (hb); have n4_ := Aside0.mk (ho); clear BK318; clear BK319; clear BK320; clear HB; clear HO_15; have BK318 := n0_; have BK319 := n1_; have BK320 := n2_; have HB := n3_; have HO337 := n4_; clear n0_ n1_ n2_ n3_ n4_; clear ho hb hg hat))
                               go_roundg kj36
                               case measure => have := HJ5.out; have := HK2.out; have := HK3.out; have := HK4.out; have := HJ36.out; omega
                               case rel => exact ⟨(y335), (wrap64 (x16_4 + 1)), zq3, H', ⟨by have := HJ5.out; have := HK2.out; have := HK3.out; have := HK4.out; have := HJ36.out; omega⟩, ⟨by (with_reducible repeat (first | apply Kd.R_alloc | apply Kd.R_drewN | apply Kd.R_drew)); exact HO337.out⟩, ⟨zbf⟩, ⟨zbf⟩, ⟨zbf⟩, ⟨zbz⟩⟩
                              ·rw [if_neg c55] at H
                               exact absurd H (by simp)
                             ·replace c54 := Bool.eq_false_iff.mpr c54
                              subst c54
                              have H1 : (some false) = some r := by rw [if_neg (show ¬ (false = true) by decide)] at H; exact H
                              clear H
                              have H := H1
                              clear H1
                              have hh_ := Option.some.inj H
                              rw [hr_.out] at hh_
                              cases hh_
                            ·rw [if_neg c52] at H
                             exact absurd H (by simp)
                           ·rw [if_neg c51] at H
                            exact absurd H (by simp)
                          ·rw [if_neg c50] at H
                           exact absurd H (by simp)
                         ·rw [if_neg c49] at H
                          exact absurd H (by simp)
                    ·rw [if_neg c36] at H
                     have c36b0 : decide (x16_4 < ((rd_L9 l3 x12_3).length : Int)) = false := decide_eq_false c36
                     clear c36
                     replace H := Option.bind_eq_some_iff.mp H
                     obtain ⟨⟨t329, t330⟩, A610, H⟩ := H
                     replace H : (if t330 = 0 then (if t329 = t326 then (isobathtop_TopInside.l1 k4 a2 l3 (wrap64 (x12_3 + 1)) a0_0 a0_1 a0_2 a0_3 a0_4 a0_5 a0_6 l0_7 l0_8 a1_0 a1_1 a1_2 a1_3 a1_4 a1_5 a1_6 a4_0 a4_1 a4_2 a4_3 a4_4 a4_5) else (some false)) else (some false)) = some r := H
                     have A61 := Aside0.mk A610
                     clear A610
                     by_cases c62 : t330 = 0
                     ·rw [if_pos c62] at H
                      have c62b0 : (t330 == 0) = true := beq_iff_eq.mpr c62
                      have c62b1 : (t330 != 0) = false := bne_eq_false_iff_eq.mpr c62
                      clear c62
                      by_cases c63 : t329 = t326
                      ·rw [if_pos c63] at H
                       have c63b0 : (t329 == t326) = true := beq_iff_eq.mpr c63
                       have c63b1 : (t329 != t326) = false := bne_eq_false_iff_eq.mpr c63
                       clear c63
                       have H' := Aside0.mk H
                       clear H
                       have p328 : 0 ≤ (x12_3 : Int) := of_decide_eq_true zq4
                       have q328 : x12_3 < (l3.length : Int) := of_decide_eq_true zq4
                       obtain ⟨ad328, A328_0, c328_0, e328, hx328_0, hl328_0, hi328_0⟩ := at_L9 HR3.out x12_3 p328 q328
                       obtain rfl : ad325 = ad328 := (by injection e328)
                       replace hx328_0 := (HB.out.cell (World.block_lt_of_cell? w _ hx328_0)).trans hx328_0
                       have HR328_0 := Aside0.mk hi328_0
                       have HC328_0 := Aside0.mk hl328_0
                       clear hi328_0 hl328_0
                       replace p328 := eq_true p328
                       replace q328 := eq_true q328
                       obtain ⟨Ao64, co64, eo64⟩ := Kd.R_slice HO_15.out
                       subst eo64
                       go_wp2_with (first | ((with_reducible refine gate_callee (f := 19) rfl ?_); refine goesL_ (some 124) rfl rfl Try.func19 zq2 rfl #[.slice Ao64 x15_4.length co64] rfl zq6 ?_; (with_reducible refine (bound_Any.calls _ _ x15_4 t329 t330 _ ?side1 ?side2 A61.out).mono ?_); (case side1 => repeat (first | exact (Kd.R_reads' HO_15.out).2.2 | (with_reducible refine Kd.C_alloc ?_ _) | (with_reducible refine Kd.C_drewN ?_ _) | (with_reducible refine Kd.C_drew ?_))); (case side2 => exact (Kd.R_reads' HO_15.out).2.1); rintro e w65 ⟨rfl, hb⟩; refine ⟨_, rfl, ?_⟩; replace HO_15 := zrb HO_15 hb; replace BK318 := zbb BK318 hb; replace BK319 := zbb BK319 hb; replace BK320 := zbb BK320 hb; replace HB := zbs HB hb; (try clear hb); (try clear hb2); (try clear hk); (try clear hi)))
                       go_roundg k4
                       case measure => have := HJ5.out; have := HK2.out; have := HK3.out; have := HK4.out; omega
                       case rel => exact ⟨(wrap64 (x12_3 + 1)), zq3, H', ⟨by have := HJ5.out; have := HK2.out; have := HK3.out; have := HK4.out; omega⟩, ⟨zbf⟩, ⟨zbf⟩, ⟨zbf⟩, ⟨zbz⟩⟩
                      ·rw [if_neg c63] at H
                       have c63b0 : (t329 == t326) = false := beq_eq_false_iff_ne.mpr c63
                       have c63b1 : (t329 != t326) = true := bne_iff_ne.mpr c63
                       have hh_ := Option.some.inj H
                       rw [hr_.out] at hh_
                       cases hh_
                     ·rw [if_neg c62] at H
                      have c62b0 : (t330 == 0) = false := beq_eq_false_iff_ne.mpr c62
                      have c62b1 : (t330 != 0) = true := bne_iff_ne.mpr c62
                      have hh_ := Option.some.inj H
                      rw [hr_.out] at hh_
                      cases hh_
                   ·rw [if_neg c35] at H
                    exact absurd H (by simp)
                  ·rw [if_neg c34] at H
                   exact absurd H (by simp)
              ·rw [if_neg c31] at H
               have c31b0 : (t327 == 0) = false := beq_eq_false_iff_ne.mpr c31
               have c31b1 : (t327 != 0) = true := bne_iff_ne.mpr c31
               by_cases c70 : t326 = 0
               ·rw [if_pos c70] at H
                have c70b0 : (t326 == 0) = true := beq_iff_eq.mpr c70
                have c70b1 : (t326 != 0) = false := bne_eq_false_iff_eq.mpr c70
                clear c70
                have H' := Aside0.mk H
                clear H
                try go_wp2
                replace BK318 := Aside0.mk (blk_drew BK318.out)
                replace BK319 := Aside0.mk (blk_drew BK319.out)
                replace BK320 := Aside0.mk (blk_drew BK320.out)
                replace HB := Aside0.mk (below_drew1 HB.out)
                have p325 : 0 ≤ (x12_3 : Int) := of_decide_eq_true zq4
                have q325 : x12_3 < (l3.length : Int) := of_decide_eq_true zq4
                obtain ⟨ad325, A325_0, c325_0, e325, hx325_0, hl325_0, hi325_0⟩ := at_L9 HR3.out x12_3 p325 q325
                have hw325_0 := hx325_0
                cases e325
                replace hx325_0 := (HB.out.cell (World.block_lt_of_cell? w _ hx325_0)).trans hx325_0
                have HR325_0 := Aside0.mk hi325_0
                have HC325_0 := Aside0.mk hl325_0
                clear hi325_0 hl325_0
                replace p325 := eq_true p325
                replace q325 := eq_true q325
                refine start_ (n := 13) (S := fun w' => w'.cell? ⟨gb319, 0, none⟩ = some (.int .i64 a1_0) ∧ w'.cell? ⟨gb319, 1, none⟩ = some (.int .i64 a1_1) ∧ w'.cell? ⟨gb319, 2, none⟩ = some (.int .i64 a1_2) ∧ w'.cell? ⟨gb319, 3, none⟩ = some (.int .i64 a1_3) ∧ w'.cell? ⟨gb319, 4, none⟩ = some (.int .i64 a1_4) ∧ w'.cell? ⟨gb319, 5, none⟩ = some (.int .i64 a1_5) ∧ w'.cell? ⟨gb319, 6, none⟩ = some (.int .i64 a1_6) ∧ w'.cell? ⟨gb320, 0, none⟩ = some (.int .i64 a4_0) ∧ w'.cell? ⟨gb320, 1, none⟩ = some (.int .i64 a4_1) ∧ w'.cell? ⟨gb320, 2, none⟩ = some (.int .i64 a4_2) ∧ w'.cell? ⟨gb320, 3, none⟩ = some (.int .i64 a4_3) ∧ w'.cell? ⟨gb320, 4, none⟩ = some (.int .i64 a4_4) ∧ w'.cell? ⟨gb320, 5, none⟩ = some (.int .i64 a4_5) ∧ w'.cell? (ad325.add (x12_3).toNat) = some (.slice A325_0 (rd_L9 l3 x12_3).length c325_0)) (ds := []) #[false, false, false, false, false, false, false, false, false, false, false, false, false] zq2 rfl rfl (zca7 BK319.out (zca6 BK320.out ((HB.out.cell (World.block_lt_of_cell? w _ hw325_0)).trans hw325_0))) (fun hHeld => ?_); refine with_tabW isobathtop_TopInside.tab11 isobathtop_TopInside.bits11 (fun HT_ HW_ => ?_)
                generalize wr.drew = w71 at BK318 BK319 BK320 HB HR325_0 hx325_0 hHeld ⊢
                refine zpz (i := 1) (N := some 64) (any_of HT_.out zq2) ?_
                refine zpz (i := 2) (N := some 65) (any_of HT_.out zq2) ?_
                refine zpz (i := 3) (N := some 66) (any_of HT_.out zq2) ?_
                refine zpz (i := 4) (N := some 67) (any_of HT_.out zq2) ?_
                refine ztz (i := 0) (N := some 63) (take_ofW HT_.out HW_.out zq2) hHeld ?_
                refine ztz (i := 5) (N := some 68) (take_ofW HT_.out HW_.out zq2) hHeld ?_
                refine ztz (i := 6) (N := some 69) (take_ofW HT_.out HW_.out zq2) hHeld ?_
                refine one_ (i := 7) (N := some 70) #[true, true, true, true, true, true, true, true, false, false, false, false, false] rfl rfl (one_of HT_.out zq2) (by decide) (fun K hK => ?_)
                refine goes_ Try.func17 zq2 rfl #[.agg #[.int .i64 a1_0, .int .i64 a1_1, .int .i64 a1_2, .int .i64 a1_3, .int .i64 a1_4, .int .i64 a1_5, .int .i64 a1_6], .int .i64 a2, .slice A325_0 (rd_L9 l3 x12_3).length c325_0, .agg #[.int .i64 a4_0, .int .i64 a4_1, .int .i64 a4_2, .int .i64 a4_3, .int .i64 a4_4, .int .i64 a4_5]] (by rfl) rfl rfl zq6 ?_
                with_reducible refine (glider_Fetched.calls k3 a1_0 a1_1 a1_2 a1_3 a1_4 a1_5 a1_6 a2 _ _ (rd_L9 l3 x12_3) a4_0 a4_1 a4_2 a4_3 a4_4 a4_5 t326 t327 _ ?side1 ?side2 A30.out).mono ?_
                (case side1 => repeat (first | exact (Kd.C_below HR325_0.out HB.out) | (with_reducible refine Kd.C_alloc ?_ _) | (with_reducible refine Kd.C_drewN ?_ _) | (with_reducible refine Kd.C_drew ?_)))
                (case side2 => exact HC325_0.out)
                rintro e w72 ⟨rfl, hb⟩
                refine ⟨_, rfl, ?_⟩
                replace BK318 := zbb BK318 hb
                replace BK319 := zbb BK319 hb
                replace BK320 := zbb BK320 hb
                replace HB := zbs HB hb
                (try clear hb)
                (try clear hb2)
                (try clear hk)
                (try clear hi)
                refine hK.out _ _ (zca7 BK319.out (zca6 BK320.out ((HB.out.cell (World.block_lt_of_cell? w _ hw325_0)).trans hw325_0))) (fun hHeld => ?_)
                clear hK K
                refine norm_ zq27 ?_
                refine zpz (i := 8) (N := some 62) (any_of HT_.out zq2) ?_
                refine zpz (i := 9) (N := some 71) (any_of HT_.out zq2) ?_
                refine zpz (i := 10) (N := some 72) (any_of HT_.out zq2) ?_
                refine zpz (i := 11) (N := some 13) (any_of HT_.out zq2) ?_
                refine zpz (i := 12) (N := some 14) (any_of HT_.out zq2) ?_
                refine done_ (done_of HT_.out zq2) ?_
                try go_wp2
                go_roundg k3
                case measure => have := HJ5.out; have := HK2.out; have := HK3.out; omega
                case rel => exact ⟨(wrap64 (x12_3 + 1)), zq3, H', ⟨by have := HJ5.out; have := HK2.out; have := HK3.out; omega⟩, ⟨zbf⟩, ⟨zbf⟩, ⟨zbf⟩, ⟨zbz⟩⟩
               ·rw [if_neg c70] at H
                have c70b0 : (t326 == 0) = false := beq_eq_false_iff_ne.mpr c70
                have c70b1 : (t326 != 0) = true := bne_iff_ne.mpr c70
                have hh_ := Option.some.inj H
                rw [hr_.out] at hh_
                cases hh_
             ·rw [if_neg c29] at H
              exact absurd H (by simp)
            ·rw [if_neg c28] at H
             have c28b0 : decide (x12_3 < (l3.length : Int)) = false := decide_eq_false c28
             clear c28
             replace H := Option.bind_eq_some_iff.mp H
             obtain ⟨⟨t338, t341⟩, A750, H⟩ := H
             replace H : (if t341 = 0 then ((isobathref03_CheckSea.f k3 a0_0 a0_1 a0_2 a0_3 a0_4 a0_5 a0_6 l0_7 l0_8).bind fun t343 => (if t343 = 0 then (isobathtop_TopInside.j5 k3 l3 t338 ((t338.length : Int) != (wrap64 (a0_0 * a0_1))) a0_0 a0_1 a0_2 a0_3 a0_4 a0_5 a0_6 l0_7 l0_8) else (isobathtop_TopInside.j5 k3 l3 t338 true a0_0 a0_1 a0_2 a0_3 a0_4 a0_5 a0_6 l0_7 l0_8))) else (if (t338.length : Int) = 0 then ((isobathtop_works03.f k3).bind fun t342 => (some t342)) else (some false))) = some r := H
             have A75 := Aside0.mk A750
             clear A750
             by_cases c76 : t341 = 0
             ·rw [if_pos c76] at H
              have c76b0 : (t341 == 0) = true := beq_iff_eq.mpr c76
              have c76b1 : (t341 != 0) = false := bne_eq_false_iff_eq.mpr c76
              clear c76
              have HC77 := Aside0.mk H
              clear H
              have hnb78 := NB318_319.out
              have hnc78 := NB319_318.out
              have hnb79 := NB318_320.out
              have hnc79 := NB320_318.out
              obtain ⟨hcz80_0, hcz80_1, hcz80_2, hcz80_3, hcz80_4, hcz80_5, hcz80_6, hcz80_7, hcz80_8, hfz80_0, hfz80_1, hfz80_2, hfz80_3, hfz80_4, hfz80_5, hfz80_6, hfz80_7, hfz80_8⟩ := zce9 BK318.out
              go_upto_region 31 with (first | ((with_reducible refine gate_callee (f := 20) rfl ?_); refine goesL_ (some 137) rfl rfl Try.func20 zq2 rfl #[.agg #[.int .i64 a0_0, .int .i64 a0_1, .int .i64 a0_2, .int .i64 a0_3, .int .i64 a0_4, .int .i64 a0_5, .int .i64 a0_6, .slice A0_7 l0_7.length c0_7, .slice A0_8 l0_8.length c0_8], .slice A3 l3.length c3] rfl zq6 ?_; (with_reducible refine (glider_Visited.calls k3 a0_0 a0_1 a0_2 a0_3 a0_4 a0_5 a0_6 _ _ l0_7 _ _ l0_8 _ _ l3 t338 t341 _ ?side1 ?side2 ?side3 ?side4 ?side5 ?side6 A75.out).mono ?_); (case side1 => repeat (first | exact (Kd.C_below HR0_7.out HB.out) | (with_reducible refine Kd.C_alloc ?_ _) | (with_reducible refine Kd.C_drewN ?_ _) | (with_reducible refine Kd.C_drew ?_))); (case side2 => exact HC0_7.out); (case side3 => repeat (first | exact (Kd.C_below HR0_8.out HB.out) | (with_reducible refine Kd.C_alloc ?_ _) | (with_reducible refine Kd.C_drewN ?_ _) | (with_reducible refine Kd.C_drew ?_))); (case side4 => exact HC0_8.out); (case side5 => repeat (first | exact (Kd.C_below HR3.out HB.out) | (with_reducible refine Kd.C_alloc ?_ _) | (with_reducible refine Kd.C_drewN ?_ _) | (with_reducible refine Kd.C_drew ?_))); (case side6 => exact HC3.out); rintro e w81 ⟨v339, rfl, ho0, hb⟩; refine ⟨_, rfl, ?_⟩; have HO340 := Aside0.mk (Kd.R_lower ho0 (below_size zbz)); replace BK318 := zbb BK318 hb; replace BK319 := zbb BK319 hb; replace BK320 := zbb BK320 hb; replace HB := zbs HB hb; (try clear hb); (try clear hb2); (try clear hk); (try clear hi); (try clear ho0)))
              (try simp only [Act.put, List.setIfInBounds_toArray, List.set_cons_zero, List.set_cons_succ])
              go_cut [160] (fun v160 wc => ∃ (kq : Nat) (x160_76 : Bool), v160 = .bool x160_76 ∧ Aside0 (isobathtop_TopInside.j5 kq l3 t338 x160_76 a0_0 a0_1 a0_2 a0_3 a0_4 a0_5 a0_6 l0_7 l0_8 = some r) ∧ Aside0 (kq ≤ k3) ∧ Aside0 (Kd.R (Kd.int .i64) 46 wc w.heap.size (fun _ => True) v339 t338) ∧ Aside0 (wc.heap[gb318]? = some (.cells #[.int .i64 a0_0, .int .i64 a0_1, .int .i64 a0_2, .int .i64 a0_3, .int .i64 a0_4, .int .i64 a0_5, .int .i64 a0_6, (.slice A0_7 l0_7.length c0_7), (.slice A0_8 l0_8.length c0_8)] 25 (0, 0))) ∧ Aside0 (wc.heap[gb319]? = some (.cells #[.int .i64 a1_0, .int .i64 a1_1, .int .i64 a1_2, .int .i64 a1_3, .int .i64 a1_4, .int .i64 a1_5, .int .i64 a1_6] 41 (0, 0))) ∧ Aside0 (wc.heap[gb320]? = some (.cells #[.int .i64 a4_0, .int .i64 a4_1, .int .i64 a4_2, .int .i64 a4_3, .int .i64 a4_4, .int .i64 a4_5] 44 (0, 0))) ∧ Aside0 (Below w.heap.size w wc))
              case first =>
               as_aux_lemma =>
                have H := HC77.out
                clear HC77
                replace H := Option.bind_eq_some_iff.mp H
                obtain ⟨t343, A820, H⟩ := H
                replace H : (if t343 = 0 then (isobathtop_TopInside.j5 k3 l3 t338 ((t338.length : Int) != (wrap64 (a0_0 * a0_1))) a0_0 a0_1 a0_2 a0_3 a0_4 a0_5 a0_6 l0_7 l0_8) else (isobathtop_TopInside.j5 k3 l3 t338 true a0_0 a0_1 a0_2 a0_3 a0_4 a0_5 a0_6 l0_7 l0_8)) = some r := H
                have A82 := Aside0.mk A820
                clear A820
                by_cases c83 : t343 = 0
                ·rw [if_pos c83] at H
                 have c83b0 : (t343 == 0) = true := beq_iff_eq.mpr c83
                 have c83b1 : (t343 != 0) = false := bne_eq_false_iff_eq.mpr c83
                 clear c83
                 (first | rw [c83b0] | (simp only [i64_w, i32_w]; rw [c83b0]) | skip)
                 have H' := Aside0.mk H
                 clear H
                 have hnb84 := NB318_319.out
                 have hnc84 := NB319_318.out
                 have hnb85 := NB318_320.out
                 have hnc85 := NB320_318.out
                 obtain ⟨hcz86_0, hcz86_1, hcz86_2, hcz86_3, hcz86_4, hcz86_5, hcz86_6, hcz86_7, hcz86_8, hfz86_0, hfz86_1, hfz86_2, hfz86_3, hfz86_4, hfz86_5, hfz86_6, hfz86_7, hfz86_8⟩ := zce9 BK318.out
                 go_wp2_with (first | ((with_reducible refine gate_callee (f := 21) rfl ?_); refine goesL_ (some 149) rfl rfl Try.func21 zq2 rfl #[.agg #[.int .i64 a0_0, .int .i64 a0_1, .int .i64 a0_2, .int .i64 a0_3, .int .i64 a0_4, .int .i64 a0_5, .int .i64 a0_6, .slice A0_7 l0_7.length c0_7, .slice A0_8 l0_8.length c0_8]] rfl zq6 ?_; (with_reducible refine (isobathref03_CheckSea.calls k3 a0_0 a0_1 a0_2 a0_3 a0_4 a0_5 a0_6 _ _ l0_7 _ _ l0_8 t343 _ ?side1 ?side2 ?side3 ?side4 A82.out).mono ?_); (case side1 => repeat (first | exact (Kd.C_below HR0_7.out HB.out) | (with_reducible refine Kd.C_alloc ?_ _) | (with_reducible refine Kd.C_drewN ?_ _) | (with_reducible refine Kd.C_drew ?_))); (case side2 => exact HC0_7.out); (case side3 => repeat (first | exact (Kd.C_below HR0_8.out HB.out) | (with_reducible refine Kd.C_alloc ?_ _) | (with_reducible refine Kd.C_drewN ?_ _) | (with_reducible refine Kd.C_drew ?_))); (case side4 => exact HC0_8.out); rintro e w87 ⟨rfl, hb⟩; refine ⟨_, rfl, ?_⟩; replace HO340 := zrb HO340 hb; replace BK318 := zbb BK318 hb; replace BK319 := zbb BK319 hb; replace BK320 := zbb BK320 hb; replace HB := zbs HB hb; (try clear hb); (try clear hb2); (try clear hk); (try clear hi); obtain ⟨Ao88, co88, eo88⟩ := Kd.R_slice HO340.out; subst eo88; obtain ⟨hcz89_0, hcz89_1, hcz89_2, hcz89_3, hcz89_4, hcz89_5, hcz89_6, hcz89_7, hcz89_8, hfz89_0, hfz89_1, hfz89_2, hfz89_3, hfz89_4, hfz89_5, hfz89_6, hfz89_7, hfz89_8⟩ := zce9 BK318.out))
                 go_meet
                 case rel => exact ⟨_, (((t338.length : Int) != (wrap64 (a0_0 * a0_1)))), zq3, H', ⟨by have := HJ5.out; have := HK2.out; have := HK3.out; first | omega | exact Nat.le_refl _⟩, ⟨by (with_reducible repeat (first | apply Kd.R_alloc | apply Kd.R_drewN | apply Kd.R_drew)); exact HO340.out⟩, ⟨zbf⟩, ⟨zbf⟩, ⟨zbf⟩, ⟨zbz⟩⟩
                ·rw [if_neg c83] at H
                 have c83b0 : (t343 == 0) = false := beq_eq_false_iff_ne.mpr c83
                 have c83b1 : (t343 != 0) = true := bne_iff_ne.mpr c83
                 (first | rw [c83b0] | (simp only [i64_w, i32_w]; rw [c83b0]) | skip)
                 have H' := Aside0.mk H
                 clear H
                 have hnb90 := NB318_319.out
                 have hnc90 := NB319_318.out
                 have hnb91 := NB318_320.out
                 have hnc91 := NB320_318.out
                 obtain ⟨hcz92_0, hcz92_1, hcz92_2, hcz92_3, hcz92_4, hcz92_5, hcz92_6, hcz92_7, hcz92_8, hfz92_0, hfz92_1, hfz92_2, hfz92_3, hfz92_4, hfz92_5, hfz92_6, hfz92_7, hfz92_8⟩ := zce9 BK318.out
                 go_wp2_with (first | ((with_reducible refine gate_callee (f := 21) rfl ?_); refine goesL_ (some 149) rfl rfl Try.func21 zq2 rfl #[.agg #[.int .i64 a0_0, .int .i64 a0_1, .int .i64 a0_2, .int .i64 a0_3, .int .i64 a0_4, .int .i64 a0_5, .int .i64 a0_6, .slice A0_7 l0_7.length c0_7, .slice A0_8 l0_8.length c0_8]] rfl zq6 ?_; (with_reducible refine (isobathref03_CheckSea.calls k3 a0_0 a0_1 a0_2 a0_3 a0_4 a0_5 a0_6 _ _ l0_7 _ _ l0_8 t343 _ ?side1 ?side2 ?side3 ?side4 A82.out).mono ?_); (case side1 => repeat (first | exact (Kd.C_below HR0_7.out HB.out) | (with_reducible refine Kd.C_alloc ?_ _) | (with_reducible refine Kd.C_drewN ?_ _) | (with_reducible refine Kd.C_drew ?_))); (case side2 => exact HC0_7.out); (case side3 => repeat (first | exact (Kd.C_below HR0_8.out HB.out) | (with_reducible refine Kd.C_alloc ?_ _) | (with_reducible refine Kd.C_drewN ?_ _) | (with_reducible refine Kd.C_drew ?_))); (case side4 => exact HC0_8.out); rintro e w93 ⟨rfl, hb⟩; refine ⟨_, rfl, ?_⟩; replace HO340 := zrb HO340 hb; replace BK318 := zbb BK318 hb; replace BK319 := zbb BK319 hb; replace BK320 := zbb BK320 hb; replace HB := zbs HB hb; (try clear hb); (try clear hb2); (try clear hk); (try clear hi)))
                 go_meet
                 case rel => exact ⟨_, (true), zq3, H', ⟨by have := HJ5.out; have := HK2.out; have := HK3.out; first | omega | exact Nat.le_refl _⟩, ⟨by (with_reducible repeat (first | apply Kd.R_alloc | apply Kd.R_drewN | apply Kd.R_drew)); exact HO340.out⟩, ⟨zbf⟩, ⟨zbf⟩, ⟨zbf⟩, ⟨zbz⟩⟩
              case rest =>
               as_aux_lemma =>
                clear HC77
                try clear c1
                try clear c2
                try clear p2
                try clear c3
                try clear p3
                try clear q3
                try clear hx3
                try clear c4
                try clear c5
                try clear c6
                try clear p6
                try clear c7
                try clear c8
                try clear c9
                try clear c17
                try clear c19
                try clear c20
                try clear c21
                try clear c28
                try clear c28b0
                try clear c29
                try clear c31
                try clear c31b0
                try clear c31b1
                try clear c32
                try clear p32
                try clear q32
                try clear hx32
                try clear c34
                try clear c35
                try clear c36
                try clear c36b0
                try clear c49
                try clear c50
                try clear c51
                try clear c52
                try clear c62
                try clear c62b0
                try clear c62b1
                try clear c63
                try clear c63b0
                try clear c63b1
                try clear p64
                try clear c70
                try clear c70b0
                try clear c70b1
                try clear c76
                try clear c76b0
                try clear c76b1
                try clear c78
                try clear c79
                try clear c83
                try clear c83b0
                try clear c83b1
                try clear c84
                try clear c85
                try clear c90
                try clear c91
                try clear hcz80_0 hcz80_1 hcz80_2 hcz80_3 hcz80_4 hcz80_5 hcz80_6 hcz80_7 hcz80_8
                try clear hcz86_0 hcz86_1 hcz86_2 hcz86_3 hcz86_4 hcz86_5 hcz86_6 hcz86_7 hcz86_8
                try clear hcz89_0 hcz89_1 hcz89_2 hcz89_3 hcz89_4 hcz89_5 hcz89_6 hcz89_7 hcz89_8
                try clear hcz92_0 hcz92_1 hcz92_2 hcz92_3 hcz92_4 hcz92_5 hcz92_6 hcz92_7 hcz92_8
                try clear hfz80_0 hfz80_1 hfz80_2 hfz80_3 hfz80_4 hfz80_5 hfz80_6 hfz80_7 hfz80_8
                try clear hfz86_0 hfz86_1 hfz86_2 hfz86_3 hfz86_4 hfz86_5 hfz86_6 hfz86_7 hfz86_8
                try clear hfz89_0 hfz89_1 hfz89_2 hfz89_3 hfz89_4 hfz89_5 hfz89_6 hfz89_7 hfz89_8
                try clear hfz92_0 hfz92_1 hfz92_2 hfz92_3 hfz92_4 hfz92_5 hfz92_6 hfz92_7 hfz92_8
                try clear hx325_0
                try clear hx328_0
                try clear p325
                try clear p328
                try clear q325
                try clear q328
                obtain ⟨kq, x160_76, rfl, HA, HJ76, HO_22, BK318, BK319, BK320, HB⟩ := hcut
                cases kq with
                | zero => exact absurd HA.out (by simp [isobathtop_TopInside.j5])
                | succ kj76 =>
                 have H := HA.out
                 clear HA
                 simp only [isobathtop_TopInside.j5] at H
                 by_cases c94 : x160_76 = true
                 ·subst c94
                  have H1 : (some false) = some r := by rw [if_pos rfl] at H; exact H
                  clear H
                  have H := H1
                  clear H1
                  have hh_ := Option.some.inj H
                  rw [hr_.out] at hh_
                  cases hh_
                 ·replace c94 := Bool.eq_false_iff.mpr c94
                  subst c94
                  have H1 : (isobathtop_TopInside.l3 kj76 l3 t338 0 a0_0 a0_1 a0_2 a0_3 a0_4 a0_5 a0_6 l0_7 l0_8) = some r := by rw [if_neg (show ¬ (false = true) by decide)] at H; exact H
                  clear H
                  have H := H1
                  clear H1
                  have H' := Aside0.mk H
                  clear H
                  go_wp2
                  go_loopg [24] kj76 (fun kq v24 w' => ∃ (x24_5 : Int), v24 = .int .i64 x24_5 ∧ Aside0 (isobathtop_TopInside.l3 kq l3 t338 x24_5 a0_0 a0_1 a0_2 a0_3 a0_4 a0_5 a0_6 l0_7 l0_8 = some r) ∧ Aside0 (kq ≤ kj76) ∧ Aside0 (Kd.R (Kd.int .i64) 46 w' w.heap.size (fun _ => True) v339 t338) ∧ Aside0 (w'.heap[gb318]? = some (.cells #[.int .i64 a0_0, .int .i64 a0_1, .int .i64 a0_2, .int .i64 a0_3, .int .i64 a0_4, .int .i64 a0_5, .int .i64 a0_6, (.slice A0_7 l0_7.length c0_7), (.slice A0_8 l0_8.length c0_8)] 25 (0, 0))) ∧ Aside0 (w'.heap[gb319]? = some (.cells #[.int .i64 a1_0, .int .i64 a1_1, .int .i64 a1_2, .int .i64 a1_3, .int .i64 a1_4, .int .i64 a1_5, .int .i64 a1_6] 41 (0, 0))) ∧ Aside0 (w'.heap[gb320]? = some (.cells #[.int .i64 a4_0, .int .i64 a4_1, .int .i64 a4_2, .int .i64 a4_3, .int .i64 a4_4, .int .i64 a4_5] 44 (0, 0))) ∧ Aside0 (Below w.heap.size w w'))
                  case atStart => exact ⟨(0), zq3, H', ⟨Nat.le_refl _⟩, ⟨zq29⟩, ⟨zbf⟩, ⟨zbf⟩, ⟨zbf⟩, ⟨zbz⟩⟩
                  case round =>
                   as_aux_lemma =>
                    clear H'
                    try clear c1
                    try clear c2
                    try clear p2
                    try clear c3
                    try clear p3
                    try clear q3
                    try clear hx3
                    try clear c4
                    try clear c5
                    try clear c6
                    try clear p6
                    try clear c7
                    try clear c8
                    try clear c9
                    try clear c17
                    try clear c19
                    try clear c20
                    try clear c21
                    try clear c28
                    try clear c28b0
                    try clear c29
                    try clear c31
                    try clear c31b0
                    try clear c31b1
                    try clear c32
                    try clear p32
                    try clear q32
                    try clear hx32
                    try clear c34
                    try clear c35
                    try clear c36
                    try clear c36b0
                    try clear c49
                    try clear c50
                    try clear c51
                    try clear c52
                    try clear c62
                    try clear c62b0
                    try clear c62b1
                    try clear c63
                    try clear c63b0
                    try clear c63b1
                    try clear p64
                    try clear c70
                    try clear c70b0
                    try clear c70b1
                    try clear c76
                    try clear c76b0
                    try clear c76b1
                    try clear c78
                    try clear c79
                    try clear c83
                    try clear c83b0
                    try clear c83b1
                    try clear c84
                    try clear c85
                    try clear c90
                    try clear c91
                    try clear c94
                    try clear hcz80_0 hcz80_1 hcz80_2 hcz80_3 hcz80_4 hcz80_5 hcz80_6 hcz80_7 hcz80_8
                    try clear hcz86_0 hcz86_1 hcz86_2 hcz86_3 hcz86_4 hcz86_5 hcz86_6 hcz86_7 hcz86_8
                    try clear hcz89_0 hcz89_1 hcz89_2 hcz89_3 hcz89_4 hcz89_5 hcz89_6 hcz89_7 hcz89_8
                    try clear hcz92_0 hcz92_1 hcz92_2 hcz92_3 hcz92_4 hcz92_5 hcz92_6 hcz92_7 hcz92_8
                    try clear hfz80_0 hfz80_1 hfz80_2 hfz80_3 hfz80_4 hfz80_5 hfz80_6 hfz80_7 hfz80_8
                    try clear hfz86_0 hfz86_1 hfz86_2 hfz86_3 hfz86_4 hfz86_5 hfz86_6 hfz86_7 hfz86_8
                    try clear hfz89_0 hfz89_1 hfz89_2 hfz89_3 hfz89_4 hfz89_5 hfz89_6 hfz89_7 hfz89_8
                    try clear hfz92_0 hfz92_1 hfz92_2 hfz92_3 hfz92_4 hfz92_5 hfz92_6 hfz92_7 hfz92_8
                    try clear hx325_0
                    try clear hx328_0
                    try clear p2
                    try clear p3
                    try clear p32
                    try clear p325
                    try clear p328
                    try clear p6
                    try clear p64
                    try clear q3
                    try clear q32
                    try clear q325
                    try clear q328
                    obtain ⟨x24_5, rfl, HA, HK5, HO_22, BK318, BK319, BK320, HB⟩ := hrel
                    cases gk with
                    | zero => exact absurd HA.out (by simp [isobathtop_TopInside.l3])
                    | succ k5 =>
                     have H := HA.out
                     clear HA
                     simp only [isobathtop_TopInside.l3] at H
                     by_cases c95 : x24_5 < (t338.length : Int)
                     ·rw [if_pos c95] at H
                      have c95b0 : decide (x24_5 < (t338.length : Int)) = true := decide_eq_true c95
                      clear c95
                      by_cases c96 : a0_0 = 0
                      ·rw [if_pos c96] at H
                       exact absurd H (by simp)
                      ·rw [if_neg c96] at H
                       have c96b0 : (a0_0 == 0) = false := beq_eq_false_iff_ne.mpr c96
                       have c96b1 : (a0_0 != 0) = true := bne_iff_ne.mpr c96
                       have H' := Aside0.mk H
                       clear H
                       obtain ⟨Ao97, co97, eo97⟩ := Kd.R_slice HO_22.out
                       subst eo97
                       try go_wp2
                       replace HO_22 := Aside0.mk (Kd.R_drew HO_22.out)
                       replace BK318 := Aside0.mk (blk_drew BK318.out)
                       replace BK319 := Aside0.mk (blk_drew BK319.out)
                       replace BK320 := Aside0.mk (blk_drew BK320.out)
                       replace HB := Aside0.mk (below_drew1 HB.out)
                       refine start_ (n := 16) (S := fun w' => w'.cell? ⟨gb318, 0, none⟩ = some (.int .i64 a0_0) ∧ w'.cell? ⟨gb318, 1, none⟩ = some (.int .i64 a0_1) ∧ w'.cell? ⟨gb318, 2, none⟩ = some (.int .i64 a0_2) ∧ w'.cell? ⟨gb318, 3, none⟩ = some (.int .i64 a0_3) ∧ w'.cell? ⟨gb318, 4, none⟩ = some (.int .i64 a0_4) ∧ w'.cell? ⟨gb318, 5, none⟩ = some (.int .i64 a0_5) ∧ w'.cell? ⟨gb318, 6, none⟩ = some (.int .i64 a0_6) ∧ w'.cell? ⟨gb318, 7, none⟩ = some (.slice A0_7 l0_7.length c0_7) ∧ w'.cell? ⟨gb318, 8, none⟩ = some (.slice A0_8 l0_8.length c0_8)) (ds := []) #[false, false, false, false, false, false, false, false, false, false, false, false, false, false, false, false] zq2 rfl rfl (zcs9 BK318.out) (fun hHeld => ?_); refine with_tabW isobathtop_TopInside.tab36 isobathtop_TopInside.bits36 (fun HT_ HW_ => ?_)
                       generalize wr.drew = w98 at HO_22 BK318 BK319 BK320 HB hHeld ⊢
                       refine zpz (i := 0) (N := some 167) (any_of HT_.out zq2) ?_
                       refine zpz (i := 1) (N := some 168) (any_of HT_.out zq2) ?_
                       refine zpz (i := 4) (N := some 171) (any_of HT_.out zq2) ?_
                       refine zpz (i := 7) (N := some 174) (any_of HT_.out zq2) ?_
                       refine zpz (i := 8) (N := some 175) (any_of HT_.out zq2) ?_
                       refine zpz (i := 11) (N := some 178) (any_of HT_.out zq2) ?_
                       refine ztz (i := 2) (N := some 169) (take_ofW HT_.out HW_.out zq2) hHeld ?_
                       refine zpz (i := 3) (N := some 170) (any_of HT_.out zq2) ?_
                       refine ztz (i := 5) (N := some 172) (take_ofW HT_.out HW_.out zq2) hHeld ?_
                       refine zpz (i := 6) (N := some 173) (any_of HT_.out zq2) ?_
                       refine zpz (i := 14) (N := some 25) (any_of HT_.out zq2) ?_
                       refine ztz (i := 9) (N := some 176) (take_ofW HT_.out HW_.out zq2) hHeld ?_
                       refine zpz (i := 10) (N := some 177) (any_of HT_.out zq2) ?_
                       refine ztz (i := 12) (N := some 179) (take_ofW HT_.out HW_.out zq2) hHeld ?_
                       refine zpz (i := 13) (N := some 180) (any_of HT_.out zq2) ?_
                       refine zpz (i := 15) (N := some 26) (any_of HT_.out zq2) ?_
                       refine done_ (done_of HT_.out zq2) ?_
                       have hnb99 := NB318_319.out
                       have hnc99 := NB319_318.out
                       have hnb100 := NB318_320.out
                       have hnc100 := NB320_318.out
                       obtain ⟨hcz101_0, hcz101_1, hcz101_2, hcz101_3, hcz101_4, hcz101_5, hcz101_6, hcz101_7, hcz101_8, hfz101_0, hfz101_1, hfz101_2, hfz101_3, hfz101_4, hfz101_5, hfz101_6, hfz101_7, hfz101_8⟩ := zce9 BK318.out
                       try go_wp2_with (first | ((with_reducible refine gate_dst (N := 27) rfl ?_); (try (refine gate_guard (by rfl) ?_; dsimp only)); refine box_event (by rfl) (N := 27) (by rfl) (cs := #[.int .i64 0, .int .i64 0, .int .i64 0, .int .i64 0]) (t := 29) zq0 ?_; intro gb345 hg w102 hbox hb; have BK345 := Aside0.mk (hbox); have GW345 := zgs HB hg; have GE345 := zgs HB hg; have NB318_345 := znp BK318 hg; have NB345_318 := znq BK318 hg; have NB319_345 := znp BK319 hg; have NB345_319 := znq BK319 hg; have NB320_345 := znp BK320 hg; have NB345_320 := znq BK320 hg; replace HO_22 := zrb HO_22 hb; replace BK318 := zbb BK318 hb; replace BK319 := zbb BK319 hb; replace BK320 := zbb BK320 hb; replace HB := zbs HB hb; clear hb hbox hg; have hnb103 := NB345_318.out; have hnc103 := NB318_345.out; have hnb104 := NB345_319.out; have hnc104 := NB319_345.out; have hnb105 := NB345_320.out; have hnc105 := NB320_345.out; obtain ⟨hcz106_0, hcz106_1, hcz106_2, hcz106_3, hfz106_0, hfz106_1, hfz106_2, hfz106_3⟩ := zce4 BK345.out))
                       go_loopg [28, 29] k5 (fun kq v28 v29 w' => ∃ (x28_6 : List Int) (x29_6 : Int), v29 = .int .i64 x29_6 ∧ Aside0 (isobathtop_TopInside.l4 kq l3 t338 x24_5 x28_6 x29_6 a0_0 a0_1 a0_2 a0_3 a0_4 a0_5 a0_6 l0_7 l0_8 (wrap64 ((Int.tmod x24_5 a0_0) * a0_2)) (wrap64 ((wrap64 ((Int.tmod x24_5 a0_0) * a0_2)) + a0_2)) (wrap64 ((wrap64 (Int.tdiv x24_5 a0_0)) * a0_2)) (wrap64 ((wrap64 ((wrap64 (Int.tdiv x24_5 a0_0)) * a0_2)) + a0_2)) = some r) ∧ Aside0 (kq ≤ k5) ∧ Aside0 (Kd.R (Kd.int .i64) 46 w' w.heap.size (fun k_ => some k_ ≠ (v28 : Value).ownBlock) (.slice Ao97 t338.length co97) t338) ∧ Aside0 (Kd.R (Kd.int .i64) 46 w' w.heap.size (fun k_ => some k_ ≠ ((.slice Ao97 t338.length co97) : Value).ownBlock) v28 x28_6) ∧ Aside0 (w'.heap[gb318]? = some (.cells #[.int .i64 a0_0, .int .i64 a0_1, .int .i64 a0_2, .int .i64 a0_3, .int .i64 a0_4, .int .i64 a0_5, .int .i64 a0_6, (.slice A0_7 l0_7.length c0_7), (.slice A0_8 l0_8.length c0_8)] 25 (0, 0))) ∧ Aside0 (w'.heap[gb319]? = some (.cells #[.int .i64 a1_0, .int .i64 a1_1, .int .i64 a1_2, .int .i64 a1_3, .int .i64 a1_4, .int .i64 a1_5, .int .i64 a1_6] 41 (0, 0))) ∧ Aside0 (w'.heap[gb320]? = some (.cells #[.int .i64 a4_0, .int .i64 a4_1, .int .i64 a4_2, .int .i64 a4_3, .int .i64 a4_4, .int .i64 a4_5] 44 (0, 0))) ∧ Aside0 (w'.heap[gb345]? = some (.cells #[.int .i64 (wrap64 ((Int.tmod x24_5 a0_0) * a0_2)), .int .i64 (wrap64 ((wrap64 ((Int.tmod x24_5 a0_0) * a0_2)) + a0_2)), .int .i64 (wrap64 ((wrap64 (Int.tdiv x24_5 a0_0)) * a0_2)), .int .i64 (wrap64 ((wrap64 ((wrap64 (Int.tdiv x24_5 a0_0)) * a0_2)) + a0_2))] 29 (0, 0))) ∧ Aside0 (Below w.heap.size w w'))
                       case atStart => exact ⟨(([] : List Int)), (0), zq3, H', ⟨Nat.le_refl _⟩, ⟨by (with_reducible repeat (first | apply Kd.R_alloc | apply Kd.R_drewN | apply Kd.R_drew)); exact Kd.R_mono (Kd.R_far (p := ⟨gb345, 3, none⟩) (Kd.R_far (p := ⟨gb345, 2, none⟩) (Kd.R_far (p := ⟨gb345, 1, none⟩) (Kd.R_far (p := ⟨gb345, 0, none⟩) (Kd.R_types HO_22.out BK345.out (by decide)) (fun _ hk => hk.2) (.int .i64 (wrap64 ((Int.tmod x24_5 a0_0) * a0_2)))) (fun _ hk => hk.2) (.int .i64 (wrap64 ((wrap64 ((Int.tmod x24_5 a0_0) * a0_2)) + a0_2)))) (fun _ hk => hk.2) (.int .i64 (wrap64 ((wrap64 (Int.tdiv x24_5 a0_0)) * a0_2)))) (fun _ hk => hk.2) (.int .i64 (wrap64 ((wrap64 ((wrap64 (Int.tdiv x24_5 a0_0)) * a0_2)) + a0_2)))) (fun _ hk => (by simp [Value.ownBlock]))⟩, ⟨zq25⟩, ⟨zbf⟩, ⟨zbf⟩, ⟨zbf⟩, ⟨by (with_reducible repeat (first | refine blk_drewN ?_ _ | refine blk_drew ?_ | refine blk_alloc ?_ _)); refine blk_put (cs := #[.int .i64 (wrap64 ((Int.tmod x24_5 a0_0) * a0_2)), .int .i64 (wrap64 ((wrap64 ((Int.tmod x24_5 a0_0) * a0_2)) + a0_2)), .int .i64 (wrap64 ((wrap64 (Int.tdiv x24_5 a0_0)) * a0_2)), .int .i64 0]) ?_ 3 _ rfl; (with_reducible repeat (first | refine blk_drewN ?_ _ | refine blk_drew ?_ | refine blk_alloc ?_ _)); refine blk_put (cs := #[.int .i64 (wrap64 ((Int.tmod x24_5 a0_0) * a0_2)), .int .i64 (wrap64 ((wrap64 ((Int.tmod x24_5 a0_0) * a0_2)) + a0_2)), .int .i64 0, .int .i64 0]) ?_ 2 _ rfl; (with_reducible repeat (first | refine blk_drewN ?_ _ | refine blk_drew ?_ | refine blk_alloc ?_ _)); refine blk_put (cs := #[.int .i64 (wrap64 ((Int.tmod x24_5 a0_0) * a0_2)), .int .i64 0, .int .i64 0, .int .i64 0]) ?_ 1 _ rfl; (with_reducible repeat (first | refine blk_drewN ?_ _ | refine blk_drew ?_ | refine blk_alloc ?_ _)); refine blk_put (cs := #[.int .i64 0, .int .i64 0, .int .i64 0, .int .i64 0]) ?_ 0 _ rfl; (with_reducible repeat (first | refine blk_drewN ?_ _ | refine blk_drew ?_ | refine blk_alloc ?_ _)); exact BK345.out⟩, ⟨zbz⟩⟩
                       case round =>
                        as_aux_lemma =>
                         clear H'
                         try clear c1
                         try clear c2
                         try clear p2
                         try clear c3
                         try clear p3
                         try clear q3
                         try clear hx3
                         try clear c4
                         try clear c5
                         try clear c6
                         try clear p6
                         try clear c7
                         try clear c8
                         try clear c9
                         try clear c10
                         try clear c17
                         try clear c19
                         try clear c20
                         try clear c21
                         try clear c28
                         try clear c28b0
                         try clear c29
                         try clear c31
                         try clear c31b0
                         try clear c31b1
                         try clear c32
                         try clear p32
                         try clear q32
                         try clear hx32
                         try clear c34
                         try clear c35
                         try clear c36
                         try clear c36b0
                         try clear c49
                         try clear c50
                         try clear c51
                         try clear c52
                         try clear c62
                         try clear c62b0
                         try clear c62b1
                         try clear c63
                         try clear c63b0
                         try clear c63b1
                         try clear p64
                         try clear c70
                         try clear c70b0
                         try clear c70b1
                         try clear c76
                         try clear c76b0
                         try clear c76b1
                         try clear c78
                         try clear c79
                         try clear c83
                         try clear c83b0
                         try clear c83b1
                         try clear c84
                         try clear c85
                         try clear c90
                         try clear c91
                         try clear c94
                         try clear c95
                         try clear c95b0
                         try clear c96
                         try clear c96b0
                         try clear c96b1
                         try clear c99
                         try clear c100
                         try clear c103
                         try clear c104
                         try clear c105
                         try clear hcz101_0 hcz101_1 hcz101_2 hcz101_3 hcz101_4 hcz101_5 hcz101_6 hcz101_7 hcz101_8
                         try clear hcz106_0 hcz106_1 hcz106_2 hcz106_3
                         try clear hcz80_0 hcz80_1 hcz80_2 hcz80_3 hcz80_4 hcz80_5 hcz80_6 hcz80_7 hcz80_8
                         try clear hcz86_0 hcz86_1 hcz86_2 hcz86_3 hcz86_4 hcz86_5 hcz86_6 hcz86_7 hcz86_8
                         try clear hcz89_0 hcz89_1 hcz89_2 hcz89_3 hcz89_4 hcz89_5 hcz89_6 hcz89_7 hcz89_8
                         try clear hcz92_0 hcz92_1 hcz92_2 hcz92_3 hcz92_4 hcz92_5 hcz92_6 hcz92_7 hcz92_8
                         try clear hfz101_0 hfz101_1 hfz101_2 hfz101_3 hfz101_4 hfz101_5 hfz101_6 hfz101_7 hfz101_8
                         try clear hfz106_0 hfz106_1 hfz106_2 hfz106_3
                         try clear hfz80_0 hfz80_1 hfz80_2 hfz80_3 hfz80_4 hfz80_5 hfz80_6 hfz80_7 hfz80_8
                         try clear hfz86_0 hfz86_1 hfz86_2 hfz86_3 hfz86_4 hfz86_5 hfz86_6 hfz86_7 hfz86_8
                         try clear hfz89_0 hfz89_1 hfz89_2 hfz89_3 hfz89_4 hfz89_5 hfz89_6 hfz89_7 hfz89_8
                         try clear hfz92_0 hfz92_1 hfz92_2 hfz92_3 hfz92_4 hfz92_5 hfz92_6 hfz92_7 hfz92_8
                         try clear hx325_0
                         try clear hx328_0
                         try clear p2
                         try clear p3
                         try clear p32
                         try clear p325
                         try clear p328
                         try clear p6
                         try clear p64
                         try clear q3
                         try clear q32
                         try clear q325
                         try clear q328
                         obtain ⟨x28_6, x29_6, rfl, HA, HK6, HO_22, HO_28, BK318, BK319, BK320, BK345, HB⟩ := hrel
                         cases gk with
                         | zero => exact absurd HA.out (by simp [isobathtop_TopInside.l4])
                         | succ k6 =>
                          have H := HA.out
                          clear HA
                          simp only [isobathtop_TopInside.l4] at H
                          by_cases c107 : x29_6 < (l3.length : Int)
                          ·rw [if_pos c107] at H
                           have c107b0 : decide (x29_6 < (l3.length : Int)) = true := decide_eq_true c107
                           clear c107
                           have H' := Aside0.mk H
                           clear H
                           go_wp2
                           go_loopg [28, 30] k6 (fun kq v28 v30 w' => ∃ (x28_7 : List Int) (x30_7 : Int), v30 = .int .i64 x30_7 ∧ Aside0 (isobathtop_TopInside.l5 kq l3 t338 x24_5 x28_7 x29_6 x30_7 a0_0 a0_1 a0_2 a0_3 a0_4 a0_5 a0_6 l0_7 l0_8 (wrap64 ((Int.tmod x24_5 a0_0) * a0_2)) (wrap64 ((wrap64 ((Int.tmod x24_5 a0_0) * a0_2)) + a0_2)) (wrap64 ((wrap64 (Int.tdiv x24_5 a0_0)) * a0_2)) (wrap64 ((wrap64 ((wrap64 (Int.tdiv x24_5 a0_0)) * a0_2)) + a0_2)) = some r) ∧ Aside0 (kq ≤ k6) ∧ Aside0 (Kd.R (Kd.int .i64) 46 w' w.heap.size (fun k_ => some k_ ≠ (v28 : Value).ownBlock) (.slice Ao97 t338.length co97) t338) ∧ Aside0 (Kd.R (Kd.int .i64) 46 w' w.heap.size (fun k_ => some k_ ≠ ((.slice Ao97 t338.length co97) : Value).ownBlock) v28 x28_7) ∧ Aside0 (w'.heap[gb318]? = some (.cells #[.int .i64 a0_0, .int .i64 a0_1, .int .i64 a0_2, .int .i64 a0_3, .int .i64 a0_4, .int .i64 a0_5, .int .i64 a0_6, (.slice A0_7 l0_7.length c0_7), (.slice A0_8 l0_8.length c0_8)] 25 (0, 0))) ∧ Aside0 (w'.heap[gb319]? = some (.cells #[.int .i64 a1_0, .int .i64 a1_1, .int .i64 a1_2, .int .i64 a1_3, .int .i64 a1_4, .int .i64 a1_5, .int .i64 a1_6] 41 (0, 0))) ∧ Aside0 (w'.heap[gb320]? = some (.cells #[.int .i64 a4_0, .int .i64 a4_1, .int .i64 a4_2, .int .i64 a4_3, .int .i64 a4_4, .int .i64 a4_5] 44 (0, 0))) ∧ Aside0 (w'.heap[gb345]? = some (.cells #[.int .i64 (wrap64 ((Int.tmod x24_5 a0_0) * a0_2)), .int .i64 (wrap64 ((wrap64 ((Int.tmod x24_5 a0_0) * a0_2)) + a0_2)), .int .i64 (wrap64 ((wrap64 (Int.tdiv x24_5 a0_0)) * a0_2)), .int .i64 (wrap64 ((wrap64 ((wrap64 (Int.tdiv x24_5 a0_0)) * a0_2)) + a0_2))] 29 (0, 0))) ∧ Aside0 (Below w.heap.size w w'))
                           case atStart => exact ⟨(x28_6), (0), zq3, H', ⟨Nat.le_refl _⟩, ⟨zq29⟩, ⟨zq30⟩, ⟨zbf⟩, ⟨zbf⟩, ⟨zbf⟩, ⟨zbf⟩, ⟨zbz⟩⟩
                           case round =>
                            as_aux_lemma =>
                             clear H'
                             try clear c1
                             try clear c2
                             try clear p2
                             try clear c3
                             try clear p3
                             try clear q3
                             try clear hx3
                             try clear c4
                             try clear c5
                             try clear c6
                             try clear p6
                             try clear c7
                             try clear c8
                             try clear c9
                             try clear c10
                             try clear c17
                             try clear c19
                             try clear c20
                             try clear c21
                             try clear c28
                             try clear c28b0
                             try clear c29
                             try clear c31
                             try clear c31b0
                             try clear c31b1
                             try clear c32
                             try clear p32
                             try clear q32
                             try clear hx32
                             try clear c34
                             try clear c35
                             try clear c36
                             try clear c36b0
                             try clear c49
                             try clear c50
                             try clear c51
                             try clear c52
                             try clear c62
                             try clear c62b0
                             try clear c62b1
                             try clear c63
                             try clear c63b0
                             try clear c63b1
                             try clear p64
                             try clear c70
                             try clear c70b0
                             try clear c70b1
                             try clear c76
                             try clear c76b0
                             try clear c76b1
                             try clear c78
                             try clear c79
                             try clear c83
                             try clear c83b0
                             try clear c83b1
                             try clear c84
                             try clear c85
                             try clear c90
                             try clear c91
                             try clear c94
                             try clear c95
                             try clear c95b0
                             try clear c96
                             try clear c96b0
                             try clear c96b1
                             try clear c99
                             try clear c100
                             try clear c103
                             try clear c104
                             try clear c105
                             try clear c107
                             try clear c107b0
                             try clear hcz101_0 hcz101_1 hcz101_2 hcz101_3 hcz101_4 hcz101_5 hcz101_6 hcz101_7 hcz101_8
                             try clear hcz106_0 hcz106_1 hcz106_2 hcz106_3
                             try clear hcz80_0 hcz80_1 hcz80_2 hcz80_3 hcz80_4 hcz80_5 hcz80_6 hcz80_7 hcz80_8
                             try clear hcz86_0 hcz86_1 hcz86_2 hcz86_3 hcz86_4 hcz86_5 hcz86_6 hcz86_7 hcz86_8
                             try clear hcz89_0 hcz89_1 hcz89_2 hcz89_3 hcz89_4 hcz89_5 hcz89_6 hcz89_7 hcz89_8
                             try clear hcz92_0 hcz92_1 hcz92_2 hcz92_3 hcz92_4 hcz92_5 hcz92_6 hcz92_7 hcz92_8
                             try clear hfz101_0 hfz101_1 hfz101_2 hfz101_3 hfz101_4 hfz101_5 hfz101_6 hfz101_7 hfz101_8
                             try clear hfz106_0 hfz106_1 hfz106_2 hfz106_3
                             try clear hfz80_0 hfz80_1 hfz80_2 hfz80_3 hfz80_4 hfz80_5 hfz80_6 hfz80_7 hfz80_8
                             try clear hfz86_0 hfz86_1 hfz86_2 hfz86_3 hfz86_4 hfz86_5 hfz86_6 hfz86_7 hfz86_8
                             try clear hfz89_0 hfz89_1 hfz89_2 hfz89_3 hfz89_4 hfz89_5 hfz89_6 hfz89_7 hfz89_8
                             try clear hfz92_0 hfz92_1 hfz92_2 hfz92_3 hfz92_4 hfz92_5 hfz92_6 hfz92_7 hfz92_8
                             try clear hx325_0
                             try clear hx328_0
                             try clear p2
                             try clear p3
                             try clear p32
                             try clear p325
                             try clear p328
                             try clear p6
                             try clear p64
                             try clear q3
                             try clear q32
                             try clear q325
                             try clear q328
                             obtain ⟨x28_7, x30_7, rfl, HA, HK7, HO_22, HO_28, BK318, BK319, BK320, BK345, HB⟩ := hrel
                             cases gk with
                             | zero => exact absurd HA.out (by simp [isobathtop_TopInside.l5])
                             | succ k7 =>
                              have H := HA.out
                              clear HA
                              simp only [isobathtop_TopInside.l5] at H
                              by_cases c108 : 0 ≤ x29_6
                              ·rw [if_pos c108] at H
                               have c108b0 : decide (0 ≤ x29_6) = true := decide_eq_true c108
                               clear c108
                               by_cases c109 : x29_6 < (l3.length : Int)
                               ·rw [if_pos c109] at H
                                have c109b0 : decide (x29_6 < (l3.length : Int)) = true := decide_eq_true c109
                                clear c109
                                by_cases c110 : x30_7 < ((rd_L9 l3 x29_6).length : Int)
                                ·rw [if_pos c110] at H
                                 have c110b0 : decide (x30_7 < ((rd_L9 l3 x29_6).length : Int)) = true := decide_eq_true c110
                                 clear c110
                                 by_cases c111 : 0 ≤ x30_7
                                 ·rw [if_pos c111] at H
                                  have c111b0 : decide (0 ≤ x30_7) = true := decide_eq_true c111
                                  clear c111
                                  replace H := Option.bind_eq_some_iff.mp H
                                  obtain ⟨⟨t352, t353⟩, A1120, H⟩ := H
                                  replace H : (if t353 = true then (if x28_7.length < 17592186044416 then (isobathtop_TopInside.l5 k7 l3 t338 x24_5 (x28_7 ++ [t352]) x29_6 (wrap64 (x30_7 + 1)) a0_0 a0_1 a0_2 a0_3 a0_4 a0_5 a0_6 l0_7 l0_8 (wrap64 ((Int.tmod x24_5 a0_0) * a0_2)) (wrap64 ((wrap64 ((Int.tmod x24_5 a0_0) * a0_2)) + a0_2)) (wrap64 ((wrap64 (Int.tdiv x24_5 a0_0)) * a0_2)) (wrap64 ((wrap64 ((wrap64 (Int.tdiv x24_5 a0_0)) * a0_2)) + a0_2))) else (none)) else (some false)) = some r := H
                                  have A112 := Aside0.mk A1120
                                  clear A1120
                                  by_cases c113 : t353 = true
                                  ·subst c113
                                   have H1 : (if x28_7.length < 17592186044416 then (isobathtop_TopInside.l5 k7 l3 t338 x24_5 (x28_7 ++ [t352]) x29_6 (wrap64 (x30_7 + 1)) a0_0 a0_1 a0_2 a0_3 a0_4 a0_5 a0_6 l0_7 l0_8 (wrap64 ((Int.tmod x24_5 a0_0) * a0_2)) (wrap64 ((wrap64 ((Int.tmod x24_5 a0_0) * a0_2)) + a0_2)) (wrap64 ((wrap64 (Int.tdiv x24_5 a0_0)) * a0_2)) (wrap64 ((wrap64 ((wrap64 (Int.tdiv x24_5 a0_0)) * a0_2)) + a0_2))) else (none)) = some r := by rw [if_pos rfl] at H; exact H
                                   clear H
                                   have H := H1
                                   clear H1
                                   by_cases c114 : x28_7.length < 17592186044416
                                   ·rw [if_pos c114] at H
                                    have LMc114 := Aside0.mk c114
                                    clear c114
                                    obtain ⟨y354, hy354⟩ : ∃ y_ : List Int, y_ = (x28_7 ++ [t352]) := ⟨_, rfl⟩
                                    replace H : (isobathtop_TopInside.l5 k7 l3 t338 x24_5 y354 x29_6 (wrap64 (x30_7 + 1)) a0_0 a0_1 a0_2 a0_3 a0_4 a0_5 a0_6 l0_7 l0_8 (wrap64 ((Int.tmod x24_5 a0_0) * a0_2)) (wrap64 ((wrap64 ((Int.tmod x24_5 a0_0) * a0_2)) + a0_2)) (wrap64 ((wrap64 (Int.tdiv x24_5 a0_0)) * a0_2)) (wrap64 ((wrap64 ((wrap64 (Int.tdiv x24_5 a0_0)) * a0_2)) + a0_2))) = some r := by first | (rw [hy354]; with_reducible exact H) | (have H2_ := (Option.bind_some _ _).symm.trans H; rw [hy354]; with_reducible exact H2_) | (have H2_ := (Option.bind_some _ _).symm.trans H; with_reducible exact H2_) | with_reducible exact H | (rw [hy354]; exact H) | exact H
                                    have Ny354 := Aside0.mk hy354
                                    clear hy354
                                    have H' := Aside0.mk H
                                    clear H
                                    have p349 : 0 ≤ (x29_6 : Int) := of_decide_eq_true zq4
                                    have q349 : x29_6 < (l3.length : Int) := of_decide_eq_true zq4
                                    obtain ⟨ad349, A349_0, c349_0, e349, hx349_0, hl349_0, hi349_0⟩ := at_L9 HR3.out x29_6 p349 q349
                                    cases e349
                                    replace hx349_0 := (HB.out.cell (World.block_lt_of_cell? w _ hx349_0)).trans hx349_0
                                    have HR349_0 := Aside0.mk hi349_0
                                    have HC349_0 := Aside0.mk hl349_0
                                    clear hi349_0 hl349_0
                                    replace p349 := eq_true p349
                                    replace q349 := eq_true q349
                                    try go_wp2
                                    replace HO_22 := Aside0.mk (Kd.R_drew HO_22.out)
                                    replace HO_28 := Aside0.mk (Kd.R_drew HO_28.out)
                                    replace BK318 := Aside0.mk (blk_drew BK318.out)
                                    replace BK319 := Aside0.mk (blk_drew BK319.out)
                                    replace BK320 := Aside0.mk (blk_drew BK320.out)
                                    replace BK345 := Aside0.mk (blk_drew BK345.out)
                                    replace HB := Aside0.mk (below_drew1 HB.out)
                                    have p350 : 0 ≤ (x29_6 : Int) := of_decide_eq_true zq4
                                    have q350 : x29_6 < (l3.length : Int) := of_decide_eq_true zq4
                                    obtain ⟨ad350, A350_0, c350_0, e350, hx350_0, hl350_0, hi350_0⟩ := at_L9 HR3.out x29_6 p350 q350
                                    have hw350_0 := hx350_0
                                    obtain rfl : ad349 = ad350 := (by injection e350)
                                    replace hx350_0 := (HB.out.cell (World.block_lt_of_cell? w _ hx350_0)).trans hx350_0
                                    have HR350_0 := Aside0.mk hi350_0
                                    have HC350_0 := Aside0.mk hl350_0
                                    clear hi350_0 hl350_0
                                    replace p350 := eq_true p350
                                    replace q350 := eq_true q350
                                    have p351 : 0 ≤ (x30_7 : Int) := of_decide_eq_true zq4
                                    have q351 : x30_7 < ((rd_L9 l3 x29_6).length : Int) := of_decide_eq_true zq4
                                    obtain ⟨ad351, e351, hx351_0, hx351_1, hx351_2, hx351_3⟩ := at_T29 HR350_0.out x30_7 p351 q351
                                    have hw351_3 := hx351_3
                                    have hw351_2 := hx351_2
                                    have hw351_1 := hx351_1
                                    have hw351_0 := hx351_0
                                    cases e351
                                    replace hx351_0 := (HB.out.cell (World.block_lt_of_cell? w _ hx351_0)).trans hx351_0
                                    replace hx351_1 := (HB.out.cell (World.block_lt_of_cell? w _ hx351_1)).trans hx351_1
                                    replace hx351_2 := (HB.out.cell (World.block_lt_of_cell? w _ hx351_2)).trans hx351_2
                                    replace hx351_3 := (HB.out.cell (World.block_lt_of_cell? w _ hx351_3)).trans hx351_3
                                    replace p351 := eq_true p351
                                    replace q351 := eq_true q351
                                    refine start_ (n := 14) (S := fun w' => w'.cell? ⟨gb345, 0, none⟩ = some (.int .i64 (wrap64 ((Int.tmod x24_5 a0_0) * a0_2))) ∧ w'.cell? ⟨gb345, 1, none⟩ = some (.int .i64 (wrap64 ((wrap64 ((Int.tmod x24_5 a0_0) * a0_2)) + a0_2))) ∧ w'.cell? ⟨gb345, 2, none⟩ = some (.int .i64 (wrap64 ((wrap64 (Int.tdiv x24_5 a0_0)) * a0_2))) ∧ w'.cell? ⟨gb345, 3, none⟩ = some (.int .i64 (wrap64 ((wrap64 ((wrap64 (Int.tdiv x24_5 a0_0)) * a0_2)) + a0_2))) ∧ w'.cell? (ad349.add (x29_6).toNat) = some (.slice (some ad351) (rd_L9 l3 x29_6).length c350_0) ∧ w'.cell? (ad351.add ((x30_7).toNat * 4)) = some (.int .i64 ((rd_T29 (rd_L9 l3 x29_6) x30_7).f0.f0)) ∧ w'.cell? ⟨(ad351.add ((x30_7).toNat * 4)).block, (ad351.add ((x30_7).toNat * 4)).off + 1, none⟩ = some (.int .i64 ((rd_T29 (rd_L9 l3 x29_6) x30_7).f0.f1)) ∧ w'.cell? ⟨(ad351.add ((x30_7).toNat * 4)).block, (ad351.add ((x30_7).toNat * 4)).off + 2, none⟩ = some (.int .i64 ((rd_T29 (rd_L9 l3 x29_6) x30_7).f1.f0)) ∧ w'.cell? ⟨(ad351.add ((x30_7).toNat * 4)).block, (ad351.add ((x30_7).toNat * 4)).off + 3, none⟩ = some (.int .i64 ((rd_T29 (rd_L9 l3 x29_6) x30_7).f1.f1))) (ds := []) #[false, false, false, false, false, false, false, false, false, false, false, false, false, false] zq2 rfl rfl (zca4 BK345.out ⟨((HB.out.cell (World.block_lt_of_cell? w _ hw350_0)).trans hw350_0), ((HB.out.cell (World.block_lt_of_cell? w _ hw351_0)).trans hw351_0), ((HB.out.cell (World.block_lt_of_cell? w _ hw351_1)).trans hw351_1), ((HB.out.cell (World.block_lt_of_cell? w _ hw351_2)).trans hw351_2), ((HB.out.cell (World.block_lt_of_cell? w _ hw351_3)).trans hw351_3)⟩) (fun hHeld => ?_); refine with_tabW isobathtop_TopInside.tab45 isobathtop_TopInside.bits45 (fun HT_ HW_ => ?_)
                                    generalize wr.drew = w115 at HO_22 HO_28 BK318 BK319 BK320 BK345 HB HR350_0 hx350_0 hx351_0 hx351_1 hx351_2 hx351_3 hHeld ⊢
                                    refine zpz (i := 0) (N := some 210) (any_of HT_.out zq2) ?_
                                    refine zpz (i := 1) (N := some 211) (any_of HT_.out zq2) ?_
                                    refine zpz (i := 2) (N := some 212) (any_of HT_.out zq2) ?_
                                    refine zpz (i := 4) (N := some 214) (any_of HT_.out zq2) ?_
                                    refine ztz (i := 3) (N := some 213) (take_ofW HT_.out HW_.out zq2) hHeld ?_
                                    refine zpz (i := 5) (N := some 215) (any_of HT_.out zq2) ?_
                                    refine ztz (i := 6) (N := some 216) (take_ofW HT_.out HW_.out zq2) hHeld ?_
                                    refine ztz (i := 7) (N := some 217) (take_ofW HT_.out HW_.out zq2) hHeld ?_
                                    refine one_ (i := 8) (N := some 218) #[true, true, true, true, true, true, true, true, true, false, false, false, false, false] rfl rfl (one_of HT_.out zq2) (by decide) (fun K hK => ?_)
                                    refine goes_ Try.func18 zq2 rfl #[.agg #[.int .i64 ((rd_T29 (rd_L9 l3 x29_6) x30_7).f0.f0), .int .i64 ((rd_T29 (rd_L9 l3 x29_6) x30_7).f0.f1), .int .i64 ((rd_T29 (rd_L9 l3 x29_6) x30_7).f1.f0), .int .i64 ((rd_T29 (rd_L9 l3 x29_6) x30_7).f1.f1)], .agg #[.int .i64 (wrap64 ((Int.tmod x24_5 a0_0) * a0_2)), .int .i64 (wrap64 ((wrap64 ((Int.tmod x24_5 a0_0) * a0_2)) + a0_2)), .int .i64 (wrap64 ((wrap64 (Int.tdiv x24_5 a0_0)) * a0_2)), .int .i64 (wrap64 ((wrap64 ((wrap64 (Int.tdiv x24_5 a0_0)) * a0_2)) + a0_2))]] (by rfl) rfl rfl zq6 ?_
                                    with_reducible refine (isobathtop_within.calls k7 ((rd_T29 (rd_L9 l3 x29_6) x30_7).f0.f0) ((rd_T29 (rd_L9 l3 x29_6) x30_7).f0.f1) ((rd_T29 (rd_L9 l3 x29_6) x30_7).f1.f0) ((rd_T29 (rd_L9 l3 x29_6) x30_7).f1.f1) (wrap64 ((Int.tmod x24_5 a0_0) * a0_2)) (wrap64 ((wrap64 ((Int.tmod x24_5 a0_0) * a0_2)) + a0_2)) (wrap64 ((wrap64 (Int.tdiv x24_5 a0_0)) * a0_2)) (wrap64 ((wrap64 ((wrap64 (Int.tdiv x24_5 a0_0)) * a0_2)) + a0_2)) t352 true _ A112.out).mono ?_
                                    rintro e w116 ⟨rfl, hb⟩
                                    refine ⟨_, rfl, ?_⟩
                                    replace HO_22 := zrb HO_22 hb
                                    replace HO_28 := zrb HO_28 hb
                                    replace BK318 := zbb BK318 hb
                                    replace BK319 := zbb BK319 hb
                                    replace BK320 := zbb BK320 hb
                                    replace BK345 := zbb BK345 hb
                                    replace HB := zbs HB hb
                                    (try clear hb)
                                    (try clear hb2)
                                    (try clear hk)
                                    (try clear hi)
                                    refine hK.out _ _ (zca4 BK345.out ⟨((HB.out.cell (World.block_lt_of_cell? w _ hw350_0)).trans hw350_0), ((HB.out.cell (World.block_lt_of_cell? w _ hw351_0)).trans hw351_0), ((HB.out.cell (World.block_lt_of_cell? w _ hw351_1)).trans hw351_1), ((HB.out.cell (World.block_lt_of_cell? w _ hw351_2)).trans hw351_2), ((HB.out.cell (World.block_lt_of_cell? w _ hw351_3)).trans hw351_3)⟩) (fun hHeld => ?_)
                                    clear hK K
                                    refine norm_ (by show Act.put _ (some 218) _ = _; simp only [Act.put, List.setIfInBounds_toArray, List.set_cons_zero, List.set_cons_succ, i64_w, i32_w]; rfl) ?_
                                    refine zpz (i := 9) (N := some 209) (any_of HT_.out zq2) ?_
                                    refine zpz (i := 10) (N := some 219) (any_of HT_.out zq2) ?_
                                    refine zpz (i := 11) (N := some 220) (any_of HT_.out zq2) ?_
                                    refine zpz (i := 12) (N := some 31) (any_of HT_.out zq2) ?_
                                    refine zpz (i := 13) (N := some 32) (any_of HT_.out zq2) ?_
                                    refine done_ (done_of HT_.out zq2) ?_
                                    try go_wp2_with (first | ((with_reducible refine gate_builtin (b := .append) (xs := #[.tmp 223, .tmp 225]) rfl ?_); (try (refine gate_guard (by rfl) ?_; dsimp only)); at_builtin; refine Kd.R_append (Kd.int .i64) (w0 := w) w.heap.size rfl (.tmp 223) (.tmp 225) 49 46 (.int .i64 0) 8 rfl Try.underlying49 info46 rfl (by decide) (by omega) u28 x28_7 t352 [.int .i64 t352] (fun k_ => some k_ ≠ (.slice Ao97 t338.length co97 : Value).ownBlock) (fun _ => False) rfl rfl ?aP (fun _ hk => hk.elim) ?aF ?aO ?aB ?aS ?aL ?_; (case aP => exact rfl); (case aB => exact zbz); (case aF => exact (fun k_ hk => Kd.fresh' (Kd.R_lt zq29) k_ hk)); (case aO => exact zq30); (case aS => exact (below_size zbz)); (case aL => have := LMc114.out; omega); intro v355 w117 ho hb hg hat; rw [← Ny354.out] at ho; have n0_ := Aside0.mk (Kd.R_after (ok := (fun _ => True)) (by (with_reducible repeat (first | apply Kd.R_alloc | apply Kd.R_drewN | apply Kd.R_drew)); exact Kd.R_mono HO_22.out (fun _ hk => ⟨trivial, hk⟩)) hg hat); have n1_ := Aside0.mk (blk_grown (g := gb318) (o := .cells #[.int .i64 a0_0, .int .i64 a0_1, .int .i64 a0_2, .int .i64 a0_3, .int .i64 a0_4, .int .i64 a0_5, .int .i64 a0_6, .slice A0_7 l0_7.length c0_7, .slice A0_8 l0_8.length c0_8] 25 (0, 0)) zbf hg (Kd.R_ne HO_28.out BK318.out (by decide))); have n2_ := Aside0.mk (blk_grown (g := gb319) (o := .cells #[.int .i64 a1_0, .int .i64 a1_1, .int .i64 a1_2, .int .i64 a1_3, .int .i64 a1_4, .int .i64 a1_5, .int .i64 a1_6] 41 (0, 0)) zbf hg (Kd.R_ne HO_28.out BK319.out (by decide))); have n3_ := Aside0.mk (blk_grown (g := gb320) (o := .cells #[.int .i64 a4_0, .int .i64 a4_1, .int .i64 a4_2, .int .i64 a4_3, .int .i64 a4_4, .int .i64 a4_5] 44 (0, 0)) zbf hg (Kd.R_ne HO_28.out BK320.out (by decide))); have n4_ := Aside0.mk (blk_grown (g := gb345) (o := .cells #[.int .i64 (wrap64 ((Int.tmod x24_5 a0_0) * a0_2)), .int .i64 (wrap64 ((wrap64 ((Int.tmod x24_5 a0_0) * a0_2)) + a0_2)), .int .i64 (wrap64 ((wrap64 (Int.tdiv x24_5 a0_0)) * a0_2)), .int .i64 (wrap64 ((wrap64 ((wrap64 (Int.tdiv x24_5 a0_0)) * a0_2)) + a0_2))] 29 (0, 0)) zbf hg (Kd.R_ne HO_28.out BK345.out (by decide))); have n5_ := Aside0.mk (hb); have n6_ := Aside0.mk (ho); clear HO_22; clear BK318; clear BK319; clear BK320; clear BK345; clear HB; clear HO_28; have HO_22 := n0_; have BK318 := n1_; have BK319 := n2_; have BK320 := n3_; have BK345 := n4_; have HB := n5_; have HO356 := n6_; clear n0_ n1_ n2_ n3_ n4_ n5_ n6_; clear ho hb hg hat))
                                    go_roundg k7
                                    case measure => have := HJ5.out; have := HK2.out; have := HK3.out; have := HJ76.out; have := HK5.out; have := HK6.out; have := HK7.out; omega
                                    case rel => exact ⟨(y354), (wrap64 (x30_7 + 1)), zq3, H', ⟨zq31⟩, ⟨by (with_reducible repeat (first | apply Kd.R_alloc | apply Kd.R_drewN | apply Kd.R_drew)); exact Kd.R_mono HO_22.out (fun _ hk => hk.2)⟩, ⟨by (with_reducible repeat (first | apply Kd.R_alloc | apply Kd.R_drewN | apply Kd.R_drew)); exact HO356.out⟩, ⟨zbf⟩, ⟨zbf⟩, ⟨zbf⟩, ⟨zbf⟩, ⟨zbz⟩⟩
                                   ·rw [if_neg c114] at H
                                    exact absurd H (by simp)
                                  ·replace c113 := Bool.eq_false_iff.mpr c113
                                   subst c113
                                   have H1 : (some false) = some r := by rw [if_neg (show ¬ (false = true) by decide)] at H; exact H
                                   clear H
                                   have H := H1
                                   clear H1
                                   have hh_ := Option.some.inj H
                                   rw [hr_.out] at hh_
                                   cases hh_
                                 ·rw [if_neg c111] at H
                                  exact absurd H (by simp)
                                ·rw [if_neg c110] at H
                                 have c110b0 : decide (x30_7 < ((rd_L9 l3 x29_6).length : Int)) = false := decide_eq_false c110
                                 clear c110
                                 have H' := Aside0.mk H
                                 clear H
                                 have p349 : 0 ≤ (x29_6 : Int) := of_decide_eq_true zq4
                                 have q349 : x29_6 < (l3.length : Int) := of_decide_eq_true zq4
                                 obtain ⟨ad349, A349_0, c349_0, e349, hx349_0, hl349_0, hi349_0⟩ := at_L9 HR3.out x29_6 p349 q349
                                 cases e349
                                 replace hx349_0 := (HB.out.cell (World.block_lt_of_cell? w _ hx349_0)).trans hx349_0
                                 have HR349_0 := Aside0.mk hi349_0
                                 have HC349_0 := Aside0.mk hl349_0
                                 clear hi349_0 hl349_0
                                 replace p349 := eq_true p349
                                 replace q349 := eq_true q349
                                 go_wp2
                                 go_roundg k7
                                 case measure => have := HJ5.out; have := HK2.out; have := HK3.out; have := HJ76.out; have := HK5.out; have := HK6.out; have := HK7.out; omega
                                 case rel => exact ⟨(x28_7), (wrap64 (x29_6 + 1)), zq3, H', ⟨zq31⟩, ⟨zq29⟩, ⟨zq30⟩, ⟨zbf⟩, ⟨zbf⟩, ⟨zbf⟩, ⟨zbf⟩, ⟨zbz⟩⟩
                               ·rw [if_neg c109] at H
                                exact absurd H (by simp)
                              ·rw [if_neg c108] at H
                               exact absurd H (by simp)
                          ·rw [if_neg c107] at H
                           have c107b0 : decide (x29_6 < (l3.length : Int)) = false := decide_eq_false c107
                           clear c107
                           replace H := Option.bind_eq_some_iff.mp H
                           obtain ⟨⟨t346, t347⟩, A1200, H⟩ := H
                           replace H : (if t347 = 0 then (if 0 ≤ x24_5 then (if x24_5 < (t338.length : Int) then (if t346 = (rd t338 x24_5) then (isobathtop_TopInside.l3 k6 l3 t338 (wrap64 (x24_5 + 1)) a0_0 a0_1 a0_2 a0_3 a0_4 a0_5 a0_6 l0_7 l0_8) else (some false)) else (none)) else (none)) else (some false)) = some r := H
                           have A120 := Aside0.mk A1200
                           clear A1200
                           by_cases c121 : t347 = 0
                           ·rw [if_pos c121] at H
                            have c121b0 : (t347 == 0) = true := beq_iff_eq.mpr c121
                            have c121b1 : (t347 != 0) = false := bne_eq_false_iff_eq.mpr c121
                            clear c121
                            by_cases c122 : 0 ≤ x24_5
                            ·rw [if_pos c122] at H
                             have c122b0 : decide (0 ≤ x24_5) = true := decide_eq_true c122
                             clear c122
                             by_cases c123 : x24_5 < (t338.length : Int)
                             ·rw [if_pos c123] at H
                              have c123b0 : decide (x24_5 < (t338.length : Int)) = true := decide_eq_true c123
                              clear c123
                              by_cases c124 : t346 = (rd t338 x24_5)
                              ·rw [if_pos c124] at H
                               have c124b0 : (t346 == (rd t338 x24_5)) = true := beq_iff_eq.mpr c124
                               have c124b1 : (t346 != (rd t338 x24_5)) = false := bne_eq_false_iff_eq.mpr c124
                               clear c124
                               have H' := Aside0.mk H
                               clear H
                               obtain ⟨Ao125, co125, eo125⟩ := Kd.R_slice HO_28.out
                               subst eo125
                               go_wp2_with (first | ((with_reducible refine gate_callee (f := 19) rfl ?_); refine goesL_ (some 229) rfl rfl Try.func19 zq2 rfl #[.slice Ao125 x28_6.length co125] rfl zq6 ?_; (with_reducible refine (bound_Any.calls _ _ x28_6 t346 t347 _ ?side1 ?side2 A120.out).mono ?_); (case side1 => repeat (first | exact (Kd.R_reads' HO_28.out).2.2 | (with_reducible refine Kd.C_alloc ?_ _) | (with_reducible refine Kd.C_drewN ?_ _) | (with_reducible refine Kd.C_drew ?_))); (case side2 => exact (Kd.R_reads' HO_28.out).2.1); rintro e w126 ⟨rfl, hb⟩; refine ⟨_, rfl, ?_⟩; replace HO_22 := zrb HO_22 hb; replace HO_28 := zrb HO_28 hb; replace BK318 := zbb BK318 hb; replace BK319 := zbb BK319 hb; replace BK320 := zbb BK320 hb; replace BK345 := zbb BK345 hb; replace HB := zbs HB hb; (try clear hb); (try clear hb2); (try clear hk); (try clear hi); have p348 : 0 ≤ (x24_5 : Int) := of_decide_eq_true zq4; have q348 : x24_5 < (t338.length : Int) := of_decide_eq_true zq4; obtain ⟨ad348, e348, hx348_0⟩ := Kd.at_int (Kd.R_reads' HO_22.out).2.2 x24_5 p348 q348; cases e348; replace p348 := eq_true p348; replace q348 := eq_true q348))
                               go_roundg k6
                               case measure => have := HJ5.out; have := HK2.out; have := HK3.out; have := HJ76.out; have := HK5.out; have := HK6.out; omega
                               case rel => exact ⟨(wrap64 (x24_5 + 1)), zq3, H', ⟨by have := HJ5.out; have := HK2.out; have := HK3.out; have := HJ76.out; have := HK5.out; have := HK6.out; omega⟩, ⟨by (with_reducible repeat (first | apply Kd.R_alloc | apply Kd.R_drewN | apply Kd.R_drew)); exact Kd.R_mono HO_22.out (fun _ hk => trivial)⟩, ⟨zbf⟩, ⟨zbf⟩, ⟨zbf⟩, ⟨zbz⟩⟩
                              ·rw [if_neg c124] at H
                               have c124b0 : (t346 == (rd t338 x24_5)) = false := beq_eq_false_iff_ne.mpr c124
                               have c124b1 : (t346 != (rd t338 x24_5)) = true := bne_iff_ne.mpr c124
                               have hh_ := Option.some.inj H
                               rw [hr_.out] at hh_
                               cases hh_
                             ·rw [if_neg c123] at H
                              exact absurd H (by simp)
                            ·rw [if_neg c122] at H
                             exact absurd H (by simp)
                           ·rw [if_neg c121] at H
                            have c121b0 : (t347 == 0) = false := beq_eq_false_iff_ne.mpr c121
                            have c121b1 : (t347 != 0) = true := bne_iff_ne.mpr c121
                            have hh_ := Option.some.inj H
                            rw [hr_.out] at hh_
                            cases hh_
                     ·rw [if_neg c95] at H
                      have c95b0 : decide (x24_5 < (t338.length : Int)) = false := decide_eq_false c95
                      clear c95
                      replace H := Option.bind_eq_some_iff.mp H
                      obtain ⟨t344, A1310, H⟩ := H
                      replace H : (some t344) = some r := H
                      have A131 := Aside0.mk A1310
                      clear A1310
                      obtain rfl := Option.some.inj H
                      obtain ⟨Ao132, co132, eo132⟩ := Kd.R_slice HO_22.out
                      subst eo132
                      go_wp2_with (first | ((with_reducible refine gate_callee (f := 12) rfl ?_); refine goesL_ (some 242) rfl rfl Try.func12 zq2 rfl #[] rfl zq6 ?_; (with_reducible refine (isobathtop_works03.calls k5  t344 _ A131.out).mono ?_); rintro e w133 ⟨rfl, hb⟩; refine ⟨_, rfl, ?_⟩; replace HO_22 := zrb HO_22 hb; replace BK318 := zbb BK318 hb; replace BK319 := zbb BK319 hb; replace BK320 := zbb BK320 hb; replace HB := zbs HB hb; (try clear hb); (try clear hb2); (try clear hk); (try clear hi)))
                      go_ret
                      exact ⟨zq1, zbz⟩
             ·rw [if_neg c76] at H
              have c76b0 : (t341 == 0) = false := beq_eq_false_iff_ne.mpr c76
              have c76b1 : (t341 != 0) = true := bne_iff_ne.mpr c76
              by_cases c134 : (t338.length : Int) = 0
              ·rw [if_pos c134] at H
               have c134b0 : ((t338.length : Int) == 0) = true := beq_iff_eq.mpr c134
               have c134b1 : ((t338.length : Int) != 0) = false := bne_eq_false_iff_eq.mpr c134
               clear c134
               replace H := Option.bind_eq_some_iff.mp H
               obtain ⟨t342, A1350, H⟩ := H
               replace H : (some t342) = some r := H
               have A135 := Aside0.mk A1350
               clear A1350
               obtain rfl := Option.some.inj H
               have hnb136 := NB318_319.out
               have hnc136 := NB319_318.out
               have hnb137 := NB318_320.out
               have hnc137 := NB320_318.out
               obtain ⟨hcz138_0, hcz138_1, hcz138_2, hcz138_3, hcz138_4, hcz138_5, hcz138_6, hcz138_7, hcz138_8, hfz138_0, hfz138_1, hfz138_2, hfz138_3, hfz138_4, hfz138_5, hfz138_6, hfz138_7, hfz138_8⟩ := zce9 BK318.out
               go_wp2_with (first | ((with_reducible refine gate_callee (f := 20) rfl ?_); refine goesL_ (some 137) rfl rfl Try.func20 zq2 rfl #[.agg #[.int .i64 a0_0, .int .i64 a0_1, .int .i64 a0_2, .int .i64 a0_3, .int .i64 a0_4, .int .i64 a0_5, .int .i64 a0_6, .slice A0_7 l0_7.length c0_7, .slice A0_8 l0_8.length c0_8], .slice A3 l3.length c3] rfl zq6 ?_; (with_reducible refine (glider_Visited.calls k3 a0_0 a0_1 a0_2 a0_3 a0_4 a0_5 a0_6 _ _ l0_7 _ _ l0_8 _ _ l3 t338 t341 _ ?side1 ?side2 ?side3 ?side4 ?side5 ?side6 A75.out).mono ?_); (case side1 => repeat (first | exact (Kd.C_below HR0_7.out HB.out) | (with_reducible refine Kd.C_alloc ?_ _) | (with_reducible refine Kd.C_drewN ?_ _) | (with_reducible refine Kd.C_drew ?_))); (case side2 => exact HC0_7.out); (case side3 => repeat (first | exact (Kd.C_below HR0_8.out HB.out) | (with_reducible refine Kd.C_alloc ?_ _) | (with_reducible refine Kd.C_drewN ?_ _) | (with_reducible refine Kd.C_drew ?_))); (case side4 => exact HC0_8.out); (case side5 => repeat (first | exact (Kd.C_below HR3.out HB.out) | (with_reducible refine Kd.C_alloc ?_ _) | (with_reducible refine Kd.C_drewN ?_ _) | (with_reducible refine Kd.C_drew ?_))); (case side6 => exact HC3.out); rintro e w139 ⟨v339, rfl, ho0, hb⟩; refine ⟨_, rfl, ?_⟩; have HO340 := Aside0.mk (Kd.R_lower ho0 (below_size zbz)); replace BK318 := zbb BK318 hb; replace BK319 := zbb BK319 hb; replace BK320 := zbb BK320 hb; replace HB := zbs HB hb; (try clear hb); (try clear hb2); (try clear hk); (try clear hi); (try clear ho0); obtain ⟨Ao140, co140, eo140⟩ := Kd.R_slice HO340.out; subst eo140) | (go_at_call 12; (with_reducible refine (isobathtop_works03.calls k3  t342 _ A135.out).mono ?_); rintro e w141 ⟨rfl, hb⟩; replace HO340 := zrb HO340 hb; replace BK318 := zbb BK318 hb; replace BK319 := zbb BK319 hb; replace BK320 := zbb BK320 hb; replace HB := zbs HB hb; (try clear hb); (try clear hb2); (try clear hk); (try clear hi)))
               go_ret
               exact ⟨zq1, zbz⟩
              ·rw [if_neg c134] at H
               have c134b0 : ((t338.length : Int) == 0) = false := beq_eq_false_iff_ne.mpr c134
               have c134b1 : ((t338.length : Int) != 0) = true := bne_iff_ne.mpr c134
               have c134b2 : ¬ (t338 = []) := fun h_ => c134 (by rw [h_]; rfl)
               have hh_ := Option.some.inj H
               rw [hr_.out] at hh_
               cases hh_

end Go.Proofs.Ythglkoddmpicdaa.Pr
end
