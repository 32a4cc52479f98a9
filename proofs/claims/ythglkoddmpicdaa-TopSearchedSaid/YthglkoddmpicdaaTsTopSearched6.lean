/- Part 6 of the proof of TopSearched: what the functions compute. No condition. -/
import Derived.RangeFuncCalls
import Derived.RangeFuncNested
import Derived.OrdersIn
import Derived.RangeFuncBound
import Derived.RangeFuncLeaves
import Derived.Shelf.Abstract
import Derived.Shelf.RegionOpen
import Derived.WalkKit
import Derived.OwnWalkIn
import Derived.TacticsInMore
import Derived.LoopNIn
import Derived.LoopIn
import Derived.Lib.Hide
import Derived.Deep.QuietTactic
import Derived.BigQuiet
import Derived.StillTailTactics
import Derived.Test.YthglkoddmpicdaaTsTopSearched3
import Derived.Test.YthglkoddmpicdaaTsTopSearched4
set_option linter.unusedVariables false
set_option linter.unusedSimpArgs false
section
/- A region that draws its order, in a round of a loop over a function: it is walked as anywhere else (no operation of it is a deferred call). -/
namespace Go.Proofs.YthglkoddmpicdaaW.Round
open Go.RowKit Go.Proofs.YthglkoddmpicdaaW.PrintWords Go.Proofs.YthglkoddmpicdaaW.PrintLast
section
variable {P : Program} {n l : Nat}

theorem oper_round {o : Oper} {a : Act} {w : World} {K : Act → World → Prop} {Q : Exit → Act → World → Prop} (hd : ∀ c, o.op ≠ .defer c) (h : o.wp P a w K Q) : o.wpIn (Fence.wide.inRound l) n P a w K Q := by
 refine ⟨fun _ _ => trivial, ?_⟩
 rw [Oper.semAt_eq _ _ _ hd]
 unfold Oper.wp at h
 generalize (execOp a.eval o).run P w = r at h
 cases r with
 | ok x w' =>
  cases x with
  | value v => exact h
  | skip => exact h
  | defer d => exact h
  | enter f args => exact ⟨fun h0 => (by cases h0), CallsIn.inRound l (callsIn_wide.2 h)⟩
  | row row args => exact ⟨fun h0 => (by cases h0), fun c cs _ => by obtain ⟨v, w2, r, s⟩ := h c cs; exact ⟨v, w2, r, stepsIn_wide.2 s⟩⟩
  | _ => exact h.elim
 | halt x w' =>
  cases x with
  | panic v => exact h
  | _ => exact h.elim

/-- No operation is a deferred call. -/
def noDefer (ops : Array Oper) : Bool := ops.all fun o => match o.op with | .defer _ => false | _ => true
theorem noDefer_get {ops : Array Oper} (h : noDefer ops = true) {i : Nat} {o : Oper} (ho : ops[i]? = some o) : ∀ c, o.op ≠ .defer c := by
 intro c e
 unfold noDefer at h
 rw [Array.all_eq_true] at h
 obtain ⟨hi, he⟩ := Array.getElem?_eq_some_iff.1 ho
 have := h i hi
 rw [he, e] at this
 simp at this
theorem wpAny_round {ops : Array Oper} {Q : Exit → Act → World → Prop} {md : Region.Mode} (hn : noDefer ops = true) (hQ : ¬ LetsOut Q) : ∀ (fuel : Nat) (listed : Array Bool) (a : Act) (w : World),
  wpAny P md ops Q fuel listed a w → wpAnyIn (Fence.wide.inRound l) n P md ops Q fuel listed a w
 | 0, _, _, _, h => h
 | fuel + 1, listed, a, w, h => by
  refine ⟨h.1, fun i hi => ?_⟩
  have h1 := h.2 i hi
  unfold wpOp at h1
  unfold wpOpIn
  cases ho : ops[i]? with
  | none =>
   rw [ho] at h1
   exact wpAny_round hn hQ fuel _ _ _ h1
  | some o =>
   rw [ho] at h1
   dsimp only at h1 ⊢
   split at h1
   ·rename_i hw
    rw [if_pos hw]
    rcases h1 with h1 | ⟨_, h1⟩
    ·exact Oper.wpIn_mono (fun a w h => wpAny_round hn hQ fuel _ a w h) (oper_round (noDefer_get hn ho) h1)
    ·exact absurd h1 hQ
   ·rename_i hw
    rw [if_neg hw]
    exact ⟨fun _ _ => trivial, wpAny_round hn hQ fuel _ _ _ h1⟩
theorem letsOut_ownG {α : Type} {B : Nat} {Kp : World → World → Prop} {I : List α → World → Prop} {Ix : Code → List α → World → Prop} {xs : List α} {W : World} : ¬ LetsOut (ownPostG B Kp I Ix xs W) := fun ⟨_, _, h⟩ => h
theorem letsOut_inBlock {id : Nat} {Q : Exit → Act → World → Prop} (h : ¬ LetsOut Q) : ¬ LetsOut (Exit.inBlock id Q) := fun ⟨a, w, h1⟩ => h ⟨a, w, h1⟩
theorem letsOut_then {K : Act → World → Prop} {Q : Exit → Act → World → Prop} (h : ¬ LetsOut Q) : ¬ LetsOut (Exit.then K Q) := fun ⟨a, w, h1⟩ => h ⟨a, w, h1⟩
/-- The head of such a region's walk, in a round. -/
theorem startIn_ {ops : Array Oper} {Q : Exit → Act → World → Prop} {S : World → Prop} {ds : List Nat} {id m : Nat} {a : Act} {w : World} (lit : Array Bool) (hd : noDefer ops = true) (hQ : ¬ LetsOut Q) (hm : P.follows .mixedOrders = true) (hn : ops.size = m) (hl : Array.replicate m false = lit) (hS : S w.drew)
  (h : S w.drew → wpAnyLast P .any ops Q S ds m lit a w.drew) : (Code.region id ops true).wpIn (Fence.wide.inRound l) n P Q a w := by
 subst hn
 subst hl
 exact wpIn_region_any hm (wpAny_round hd hQ _ _ _ _ (wpAny_of_last _ _ _ _ (h hS)))
/-- A post that speaks of the normal way out alone. -/
def onlyN (K : Act → World → Prop) : Exit → Act → World → Prop
 | .normal, a, w => K a w
 | _, _, _ => False
theorem onlyN_normal {Q : Exit → Act → World → Prop} {a : Act} {w : World} (h : Q .normal a w) : onlyN (Q .normal) .normal a w := h
theorem wpIn_only {F : Fence} {c : Code} {Q : Exit → Act → World → Prop} {a : Act} {w : World} (h : c.wpIn F n P (onlyN (Q .normal)) a w) : c.wpIn F n P Q a w := wpIn_mono h (fun e a w h => by cases e <;> first | exact h | exact h.elim)
end
end Go.Proofs.YthglkoddmpicdaaW.Round
end
section
/- A trip in memory, and what its small methods compute. -/
namespace Go.Proofs.Ythglkoddmpicdaa.Gl
open Go.RowKit Go.Shelf Go.Proofs.YthglkoddmpicdaaW.PrintWords Go.Proofs.YthglkoddmpicdaaW.PrintLast Go.Proofs.YthglkoddmpicdaaW.PrintMore Go.Proofs.Ythglkoddmpicdaa.Pr Go.Proofs.YthglkoddmpicdaaW.Round
set_option linter.unusedVariables false
set_option linter.unusedSimpArgs false
attribute [local go_sem] max2_int min2_int max_two min_two max_four
/-- A sea. -/
structure Sea where
 nx : Int
 ny : Int
 cell : Int
 slot : Int
 slots : Int
 layers : Int
 most : Int
 shores : List Bool
 currents : List S33
/-- A vehicle. -/
structure Veh where
 speed : Int
 dive : Int
 use : S27
 drift : S27
 reserve : Int
/-- A block of memory, whole. -/
def Blk (W : World) (b : Nat) (c : Array Value) (t : TypeId) : Prop := W.heap[b]? = some (.cells c t (0, 0))
theorem Blk.below {W W1 : World} {b : Nat} {c : Array Value} {t : TypeId} (h : Blk W b c t) (hb : Below W.heap.size W W1) : Blk W1 b c t := (hb.block b (Array.getElem?_eq_some_iff.1 h).1).trans h
/-- A call returns a value; what was there before is as it was. -/
def RetB (v : Value) (w : World) (e : Ending) (w' : World) : Prop := e = .returned v ∧ Below w.heap.size w w'
/-- A trip in memory. -/
def TripAt (W : World) (b : Nat) (s : Sea) (v : Veh) : Prop := ∃ A7 c7 A8 c8, Blk W b #[.int .i64 s.nx, .int .i64 s.ny, .int .i64 s.cell, .int .i64 s.slot, .int .i64 s.slots, .int .i64 s.layers, .int .i64 s.most, .slice A7 s.shores.length c7, .slice A8 s.currents.length c8, .int .i64 v.speed, .int .i64 v.dive, .int .i64 v.use.f0, .int .i64 v.use.f1, .int .i64 v.drift.f0, .int .i64 v.drift.f1, .int .i64 v.reserve] 120 ∧ s.shores.length ≤ c7 ∧ Kd.C Kd.bool W A7 s.shores.length s.shores ∧ s.currents.length ≤ c8 ∧ Kd.C k33 W A8 s.currents.length s.currents
theorem TripAt.below {W W1 : World} {b : Nat} {s : Sea} {v : Veh} (h : TripAt W b s v) (hb : Below W.heap.size W W1) : TripAt W1 b s v := by
 obtain ⟨A7, c7, A8, c8, h1, h2, h3, h4, h5⟩ := h
 exact ⟨A7, c7, A8, c8, h1.below hb, h2, Kd.C_below h3 hb, h4, Kd.C_below h5 hb⟩
/-- The numbers of a valid sea. -/
structure SeaN (s : Sea) : Prop where
 nx : 1 ≤ s.nx ∧ s.nx ≤ 12
 ny : 1 ≤ s.ny ∧ s.ny ≤ 12
 cell : 100 ≤ s.cell ∧ s.cell ≤ 65536
 slot : 1 ≤ s.slot ∧ s.slot ≤ 1048576
 slots : 1 ≤ s.slots ∧ s.slots ≤ 16
 layers : 1 ≤ s.layers ∧ s.layers ≤ 3
 most : 0 ≤ s.most ∧ s.most ≤ 5000
/-- The numbers of a valid vehicle. -/
structure VehN (v : Veh) : Prop where
 speed : 0 ≤ v.speed ∧ v.speed ≤ 5000
 dive : 1 ≤ v.dive ∧ v.dive ≤ 131072
theorem ret_two {a b c d : Int} (h : a = c) (h2 : b = d) : Ending.returned (.tuple #[.int .i64 a, .int .i64 b]) = Ending.returned (.tuple #[.int .i64 c, .int .i64 d]) := by rw [h, h2]
theorem mul_in {a b m n : Int} (h0 : 0 ≤ a) (h1 : a ≤ m) (h2 : 0 ≤ b) (h3 : b ≤ n) : 0 ≤ a * b ∧ a * b ≤ m * n :=
 ⟨Int.mul_nonneg h0 h2, Int.le_trans (Int.mul_le_mul_of_nonneg_right h1 h2) (Int.mul_le_mul_of_nonneg_left h3 (Int.le_trans h0 h1))⟩
/-- Is a box in the sea? -/
def containsI (s : Sea) (x : S29) : Bool := decide (0 ≤ x.f0.f0) && decide (0 ≤ x.f1.f0) && decide (x.f0.f1 ≤ s.nx * s.cell) && decide (x.f1.f1 ≤ s.ny * s.cell)
/-- Are all seconds in slots? -/
def knownI (s : Sea) (t u : Int) : Bool := decide (0 ≤ t) && decide (u ≤ s.slots * s.slot)
set_option maxRecDepth 100000 in
set_option maxHeartbeats 2000000 in
theorem contains_any (b : Nat) (s : Sea) (v : Veh) (x : S29) (w : World) (hT : TripAt w b s v) (hS : SeaN s) :
  Calls Try.prog 52 #[.pointer (some ⟨b, 0, none⟩), .agg #[.int .i64 x.f0.f0, .int .i64 x.f0.f1, .int .i64 x.f1.f0, .int .i64 x.f1.f1]] w (RetB (.bool (containsI s x)) w) := by
 obtain ⟨A7, c7, A8, c8, hB, _⟩ := hT
 have hx := mul_in (show 0 ≤ s.nx by have := hS.nx; omega) hS.nx.2 (show 0 ≤ s.cell by have := hS.cell; omega) hS.cell.2
 have hy := mul_in (show 0 ≤ s.ny by have := hS.ny; omega) hS.ny.2 (show 0 ≤ s.cell by have := hS.cell; omega) hS.cell.2
 clear hS
 have hC0 : ∀ o_, (w.alloc o_).cell? ⟨b, 0, none⟩ = some (.int .i64 s.nx) := fun o_ => (blk_cell (blk_alloc hB o_) 0).trans rfl
 have hC1 : ∀ o_, (w.alloc o_).cell? ⟨b, 1, none⟩ = some (.int .i64 s.ny) := fun o_ => (blk_cell (blk_alloc hB o_) 1).trans rfl
 have hC2 : ∀ o_, (w.alloc o_).cell? ⟨b, 2, none⟩ = some (.int .i64 s.cell) := fun o_ => (blk_cell (blk_alloc hB o_) 2).trans rfl
 by_cases q0 : 0 ≤ x.f0.f0
 ·have q0_ : decide (0 ≤ x.f0.f0) = true := decide_eq_true q0
  by_cases q1 : 0 ≤ x.f1.f0
  ·have q1_ : decide (0 ≤ x.f1.f0) = true := decide_eq_true q1
   by_cases q2 : x.f0.f1 ≤ s.nx * s.cell
   ·have q2_ : decide (x.f0.f1 ≤ s.nx * s.cell) = true := decide_eq_true q2
    by_cases q3 : x.f1.f1 ≤ s.ny * s.cell
    ·have q3_ : decide (x.f1.f1 ≤ s.ny * s.cell) = true := decide_eq_true q3
     have HR : Hid (containsI s x = true) := Lib.hid (by unfold containsI; simp only [q0_, q1_, q2_, q3_]; rfl)
     go_enter Try.func52, Try.ntmps52
     go_wp2
     go_quiet (fail)
     go_wp2
     go_ret
     exact ⟨zq17, zq18⟩
    ·have q3_ : decide (x.f1.f1 ≤ s.ny * s.cell) = false := decide_eq_false q3
     have HR : Hid (containsI s x = false) := Lib.hid (by unfold containsI; simp only [q0_, q1_, q2_, q3_]; rfl)
     go_enter Try.func52, Try.ntmps52
     go_wp2
     go_quiet (fail)
     go_wp2
     go_ret
     exact ⟨zq17, zq18⟩
   ·have q2_ : decide (x.f0.f1 ≤ s.nx * s.cell) = false := decide_eq_false q2
    have HR : Hid (containsI s x = false) := Lib.hid (by unfold containsI; simp only [q0_, q1_, q2_]; rfl)
    go_enter Try.func52, Try.ntmps52
    go_wp2
    go_quiet (fail)
    go_wp2
    go_ret
    exact ⟨zq17, zq18⟩
  ·have q1_ : decide (0 ≤ x.f1.f0) = false := decide_eq_false q1
   have HR : Hid (containsI s x = false) := Lib.hid (by unfold containsI; simp only [q0_, q1_]; rfl)
   go_enter Try.func52, Try.ntmps52
   go_wp2
   go_quiet (fail)
   go_wp2
   go_ret
   exact ⟨zq17, zq18⟩
 ·have q0_ : decide (0 ≤ x.f0.f0) = false := decide_eq_false q0
  have HR : Hid (containsI s x = false) := Lib.hid (by unfold containsI; simp only [q0_]; rfl)
  go_enter Try.func52, Try.ntmps52
  go_wp2
  go_quiet (fail)
  go_wp2
  go_ret
  exact ⟨zq17, zq18⟩
set_option maxRecDepth 100000 in
set_option maxHeartbeats 2000000 in
theorem known_any (b : Nat) (s : Sea) (v : Veh) (t u : Int) (w : World) (hT : TripAt w b s v) (hS : SeaN s) :
  Calls Try.prog 53 #[.pointer (some ⟨b, 0, none⟩), .int .i64 t, .int .i64 u] w (RetB (.bool (knownI s t u)) w) := by
 obtain ⟨A7, c7, A8, c8, hB, _⟩ := hT
 have hx := mul_in (show 0 ≤ s.slots by have := hS.slots; omega) hS.slots.2 (show 0 ≤ s.slot by have := hS.slot; omega) hS.slot.2
 clear hS
 have hC3 : w.cell? ⟨b, 3, none⟩ = some (.int .i64 s.slot) := (blk_cell hB 3).trans rfl
 have hC4 : w.cell? ⟨b, 4, none⟩ = some (.int .i64 s.slots) := (blk_cell hB 4).trans rfl
 by_cases q0 : 0 ≤ t
 ·have q0_ : decide (0 ≤ t) = true := decide_eq_true q0
  by_cases q1 : u ≤ s.slots * s.slot
  ·have q1_ : decide (u ≤ s.slots * s.slot) = true := decide_eq_true q1
   have HR : Hid (knownI s t u = true) := Lib.hid (by unfold knownI; simp only [q0_, q1_]; rfl)
   go_enter Try.func53, Try.ntmps53
   go_wp2
   go_quiet (fail)
   go_wp2
   go_ret
   exact ⟨zq17, zq18⟩
  ·have q1_ : decide (u ≤ s.slots * s.slot) = false := decide_eq_false q1
   have HR : Hid (knownI s t u = false) := Lib.hid (by unfold knownI; simp only [q0_, q1_]; rfl)
   go_enter Try.func53, Try.ntmps53
   go_wp2
   go_quiet (fail)
   go_wp2
   go_ret
   exact ⟨zq17, zq18⟩
 ·have q0_ : decide (0 ≤ t) = false := decide_eq_false q0
  have HR : Hid (knownI s t u = false) := Lib.hid (by unfold knownI; simp only [q0_]; rfl)
  go_enter Try.func53, Try.ntmps53
  go_wp2
  go_quiet (fail)
  go_wp2
  go_ret
  exact ⟨zq17, zq18⟩

/-- The first cell, along a side, that a span from lo on touches. -/
def firstI (c lo : Int) : Int := if 0 < lo / c ∧ lo % c = 0 then lo / c - 1 else lo / c
def numI (c : Int) (a : S27) (most : Int) : Int × Int := (min (firstI c a.f0) (most - 1), min (a.f1 / c) (most - 1))
theorem div_in {x c : Int} (h0 : 0 ≤ x) (hc : 1 ≤ c) : 0 ≤ x / c ∧ x / c ≤ x :=
 ⟨Int.ediv_nonneg h0 (by omega), Int.ediv_le_self _ h0⟩
theorem mod_in {x c : Int} (hc : 1 ≤ c) : 0 ≤ x % c ∧ x % c ≤ c := by
 have h1 := Int.emod_nonneg x (show c ≠ 0 by omega)
 have h2 := Int.emod_lt_of_pos x (show 0 < c by omega)
 omega
set_option maxRecDepth 100000 in
set_option maxHeartbeats 2000000 in
theorem numbers_any (b : Nat) (s : Sea) (v : Veh) (a : S27) (most : Int) (w : World) (hT : TripAt w b s v) (hS : SeaN s) (h0 : 0 ≤ a.f0) (h1 : a.f0 ≤ 1099511627776) (h2 : 0 ≤ a.f1) (h3 : a.f1 ≤ 1099511627776) (hm0 : 1 ≤ most) (hm1 : most ≤ 12) :
  Calls Try.prog 157 #[.pointer (some ⟨b, 0, none⟩), .agg #[.int .i64 a.f0, .int .i64 a.f1], .int .i64 most] w (RetB (.tuple #[.int .i64 (numI s.cell a most).1, .int .i64 (numI s.cell a most).2]) w) := by
 obtain ⟨A7, c7, A8, c8, hB, _⟩ := hT
 have hc := hS.cell
 have hd := div_in h0 (show 1 ≤ s.cell by omega)
 have hd2 := div_in h2 (show 1 ≤ s.cell by omega)
 have hr := mod_in (x := a.f0) (show 1 ≤ s.cell by omega)
 have hne : s.cell ≠ 0 := by omega
 have hbq : (s.cell == 0) = false := beq_eq_false_iff_ne.2 hne
 clear hS
 have hC2 : ∀ o_, (w.alloc o_).cell? ⟨b, 2, none⟩ = some (.int .i64 s.cell) := fun o_ => (blk_cell (blk_alloc hB o_) 2).trans rfl
 have e1 : Int.tdiv a.f0 s.cell = a.f0 / s.cell := Int.tdiv_eq_ediv_of_nonneg h0
 have e2 : Int.tdiv a.f1 s.cell = a.f1 / s.cell := Int.tdiv_eq_ediv_of_nonneg h2
 have e3 : Int.tmod a.f0 s.cell = a.f0 % s.cell := Int.tmod_eq_emod_of_nonneg h0
 have HR : Hid (numI s.cell a most = (min (firstI s.cell a.f0) (most - 1), min (a.f1 / s.cell) (most - 1))) := Lib.hid rfl
 have HF : Hid (firstI s.cell a.f0 = if 0 < a.f0 / s.cell ∧ a.f0 % s.cell = 0 then a.f0 / s.cell - 1 else a.f0 / s.cell) := Lib.hid rfl
 generalize a.f0 / s.cell = Q at *
 generalize a.f1 / s.cell = R at *
 generalize a.f0 % s.cell = M at *
 by_cases q0 : 0 < Q
 ·have q0_ : decide (0 < Q) = true := decide_eq_true q0
  by_cases q1 : M = 0
  ·have q1_ : (M == 0) = true := beq_iff_eq.2 q1
   have HG := Lib.hid (HF.out.trans (if_pos ⟨q0, q1⟩))
   clear q1 HF
   go_enter Try.func157, Try.ntmps157
   go_wp2
   go_quiet (fail)
   go_wp2
   go_quiet (fail)
   go_wp2
   go_quiet (fail)
   go_wp2
   all_goals (go_ret2; exact ⟨ret_two (by rw [HR.out]; dsimp only; rw [HG.out]; omega) (by rw [HR.out]; dsimp only; omega), zq18⟩)
  ·have q1_ : (M == 0) = false := beq_eq_false_iff_ne.2 q1
   have HG := Lib.hid (HF.out.trans (if_neg (fun h => q1 h.2)))
   clear q1 HF
   go_enter Try.func157, Try.ntmps157
   go_wp2
   go_quiet (fail)
   go_wp2
   go_quiet (fail)
   go_wp2
   go_quiet (fail)
   go_wp2
   all_goals (go_ret2; exact ⟨ret_two (by rw [HR.out]; dsimp only; rw [HG.out]; omega) (by rw [HR.out]; dsimp only; omega), zq18⟩)
 ·have q0_ : decide (0 < Q) = false := decide_eq_false q0
  have HG := Lib.hid (HF.out.trans (if_neg (fun h => q0 h.1)))
  clear HF
  go_enter Try.func157, Try.ntmps157
  go_wp2
  go_quiet (fail)
  go_wp2
  go_quiet (fail)
  go_wp2
  go_quiet (fail)
  go_wp2
  all_goals (go_ret2; exact ⟨ret_two (by rw [HR.out]; dsimp only; rw [HG.out]; omega) (by rw [HR.out]; dsimp only; omega), zq18⟩)
end Go.Proofs.Ythglkoddmpicdaa.Gl
end
section
/- Which seas are valid: what the program answers. -/
namespace Go.Proofs.Ythglkoddmpicdaa.Gl
open Go.RowKit Go.Shelf Go.Proofs.YthglkoddmpicdaaW.PrintWords Go.Proofs.YthglkoddmpicdaaW.PrintLast Go.Proofs.YthglkoddmpicdaaW.PrintMore Go.Proofs.Ythglkoddmpicdaa.Pr Go.Proofs.YthglkoddmpicdaaW.Round
set_option linter.unusedVariables false
set_option linter.unusedSimpArgs false
attribute [local go_sem] max2_int min2_int max_two min_two max_four
def btwB (x lo hi : Int) : Bool := decide (lo ≤ x) && decide (x ≤ hi)
theorem btwB_iff {x lo hi : Int} : btwB x lo hi = true ↔ lo ≤ x ∧ x ≤ hi := by unfold btwB; simp
theorem btw_any (x lo hi : Int) (w : World) : Calls Try.prog 63 #[.int .i64 x, .int .i64 lo, .int .i64 hi] w (RetB (.bool (btwB x lo hi)) w) :=
 (glider_between.calls x lo hi (btwB x lo hi) w (by
  unfold glider_between.f btwB
  by_cases h : x ≥ lo
  ·rw [if_pos h, show decide (lo ≤ x) = true from decide_eq_true h]; simp
  ·rw [if_neg h, show decide (lo ≤ x) = false from decide_eq_false h]; simp)).mono fun _ _ h => ⟨h.1, h.2.below⟩
/-- Is a span valid? -/
def okS (lo hi : Int) : Bool := !(decide (lo > hi) || decide (lo < -1073741824) || decide (hi > 1073741824))
theorem okS_iff {lo hi : Int} : okS lo hi = true ↔ lo ≤ hi ∧ -1073741824 ≤ lo ∧ hi ≤ 1073741824 := by
 unfold okS
 simp only [Bool.not_eq_true', Bool.or_eq_false_iff, decide_eq_false_iff_not]
 omega
theorem check_span (k : Nat) (lo hi : Int) : bound_Check.f (k + 2) lo hi = some (if okS lo hi then 0 else 2) := by
 unfold bound_Check.f bound_check.f okS
 simp only [bound_check.l0, rd_T27]
 by_cases h1 : hi < lo
 ·simp [h1]
  try omega
 ·by_cases h2 : lo < -1073741824
  ·simp [h1, h2]
   try omega
  ·by_cases h3 : 1073741824 < hi
   ·simp [h1, h2, h3]
   ·have h3' : hi ≤ 1073741824 := by omega
    have h2' : -1073741824 ≤ lo := by omega
    have h1' : lo ≤ hi := by omega
    simp [h1, h2, h3, wrap64, h3', h2', h1']
def bndB (lo hi a b : Int) : Bool := okS lo hi && decide (a ≤ lo) && decide (hi ≤ b)
theorem bnd_some (k : Nat) (lo hi a b : Int) : glider_bounded.f (k + 2) lo hi a b = some (bndB lo hi a b) := by
 unfold glider_bounded.f bndB
 rw [check_span, Option.bind_some]
 cases okS lo hi with
 | false => rfl
 | true =>
  by_cases h : lo ≥ a
  ·rw [if_pos rfl, if_pos rfl, if_pos h, show decide (a ≤ lo) = true from decide_eq_true h]; simp
  ·rw [if_pos rfl, if_pos rfl, if_neg h, show decide (a ≤ lo) = false from decide_eq_false h]; simp
theorem bnd_any (lo hi a b : Int) (w : World) : Calls Try.prog 109 #[.agg #[.int .i64 lo, .int .i64 hi], .int .i64 a, .int .i64 b] w (RetB (.bool (bndB lo hi a b)) w) := glider_bounded.calls 2 _ _ _ _ _ w (bnd_some 0 lo hi a b)
theorem findIdx_at {α : Type} {p : α → Bool} {l : List α} {k : Nat} {x : α} (hk : l[k]? = some x) (h0 : (l.take k).any p = false) (hx : p x = true) : l.findIdx? p = some k := by
 have hlt := (List.getElem?_eq_some_iff.1 hk).1
 rw [List.findIdx?_eq_some_iff_getElem]
 refine ⟨hlt, by rw [(List.getElem?_eq_some_iff.1 hk).2]; exact hx, fun j hj => ?_⟩
 have := List.any_eq_false.1 h0 l[j] (by rw [List.mem_take_iff_getElem]; exact ⟨j, by omega, rfl⟩)
 simpa using this
/-- The first one, or -1. -/
def idxI {α : Type} (p : α → Bool) (l : List α) : Int := match l.findIdx? p with | none => -1 | some i => i
theorem idxI_any {α : Type} (p : α → Bool) (l : List α) : (idxI p l < 0 ∧ l.any p = false) ∨ (0 ≤ idxI p l ∧ l.any p = true) := by
 unfold idxI
 cases h : l.findIdx? p with
 | none =>
  refine .inl ⟨by decide, ?_⟩
  rw [List.any_eq_false]
  intro x hx
  have := List.findIdx?_eq_none_iff.1 h x hx
  simp [this]
 | some i =>
  obtain ⟨h1, h2, _⟩ := List.findIdx?_eq_some_iff_getElem.1 h
  exact .inr ⟨by dsimp only; omega, List.any_eq_true.2 ⟨_, List.getElem_mem h1, h2⟩⟩
section
variable {P : Program} {Q : Exit → Act → World → Prop} {ops : Array Oper}
end

set_option maxRecDepth 100000 in
set_option maxHeartbeats 2000000 in
theorem idx33_any (gs : Nat) (lb : Array Value) (g : S33 → Bool) (A : Option Addr) (c : Nat) (l : List S33) (w : World) (hC : Kd.C k33 w A l.length l) (hc : l.length ≤ c)
  (egs : ∀ args w, (callFunc gs args).run Try.prog w = .ok (.enter gs args) w)
  (hg : ∀ x W, Below w.heap.size w W → Calls Try.prog gs (#[.agg #[.int .i64 x.f0.f0, .int .i64 x.f0.f1, .int .i64 x.f1.f0, .int .i64 x.f1.f1]] ++ lb) W (RetB (.bool (g x)) W)) :
  Calls Try.prog 155 #[.slice A l.length c, .func (.func gs) #[] lb] w (RetB (.int .i64 (idxI g l)) w) := by
 have hu33 := Try.underlying33
 have hu27 := Try.underlying27
 have hb := hC.2.1
 have HI : Hid (idxI g l = match l.findIdx? g with | none => -1 | some i => (i : Int)) := Lib.hid rfl
 go_enter Try.func155, Try.ntmps155
 go_wp2
 go_loopw [8] (fun i wr => ∃ (k : Nat), k ≤ l.length ∧ i = .int .i64 k ∧ Hid ((l.take k).any g = false) ∧ Below w.heap.size w wr) (fun i _ => l.length - (intOf i).toNat)
 case atStart => exact ⟨0, Nat.zero_le _, rfl, Lib.hid (by simp), Below.refl _ _⟩
 case round =>
  obtain ⟨k, hk, rfl, HA, mB⟩ := hrel
  by_cases hlt : k < l.length
  ·obtain ⟨ad, rfl, hx0, hx1, hx2, hx3⟩ := at_T33 hC k (by omega) (by omega)
   simp only [Int.toNat_natCast] at hx0 hx1 hx2 hx3
   replace hx0 := (mB.cell (World.block_lt_of_cell? w _ hx0)).trans hx0
   replace hx1 := (mB.cell (World.block_lt_of_cell? w _ hx1)).trans hx1
   replace hx2 := (mB.cell (World.block_lt_of_cell? w _ hx2)).trans hx2
   replace hx3 := (mB.cell (World.block_lt_of_cell? w _ hx3)).trans hx3
   have hlk : l[k]? = some (rd_T33 l (k : Int)) := by simp [rd_T33, List.getD_eq_getElem?_getD, hlt]
   have htk : l.take (k + 1) = l.take k ++ [rd_T33 l (k : Int)] := by rw [List.take_add_one, hlk]; rfl
   generalize rd_T33 l (k : Int) = x at *
   have HT := Lib.hid htk
   have HK := Lib.hid hlk
   clear htk hlk
   go_wp2_with fail
   have hcon := hg x wr mB
   (with_reducible refine hcon.mono ?_)
   clear hcon hx0 hx1 hx2 hx3
   rintro e W1 ⟨rfl, hb1⟩
   replace mB := below_step mB hb1
   clear hb1
   cases hbx : g x with
   | true =>
    have HE := Lib.hid (HI.out.trans (by rw [findIdx_at HK.out HA.out hbx]))
    clear hbx
    go_wp2
    go_ret
    exact ⟨by rw [HE.out]; rfl, mB⟩
   | false =>
    have HB := Lib.hid hbx
    clear hbx
    go_wp2
    go_roundw
    case rel => exact ⟨k + 1, by omega, by simp, Lib.hid zq19, mB⟩
    case measure => simp [intOf]; omega
  ·obtain rfl : k = l.length := by omega
   rw [List.take_length] at HA
   have hn : l.findIdx? g = none := by
    rw [List.findIdx?_eq_none_iff]
    intro x hx
    have := List.any_eq_false.1 HA.out x hx
    simpa using this
   have HE := Lib.hid (HI.out.trans (by rw [hn]))
   clear hn
   go_wp2
   go_ret
   exact ⟨by rw [HE.out]; rfl, mB⟩
set_option maxHeartbeats 1000000 in
theorem cont33_any (gs : Nat) (lb : Array Value) (g : S33 → Bool) (A : Option Addr) (c : Nat) (l : List S33) (w : World) (hC : Kd.C k33 w A l.length l) (hc : l.length ≤ c)
  (egs : ∀ args w, (callFunc gs args).run Try.prog w = .ok (.enter gs args) w)
  (hg : ∀ x W, Below w.heap.size w W → Calls Try.prog gs (#[.agg #[.int .i64 x.f0.f0, .int .i64 x.f0.f1, .int .i64 x.f1.f0, .int .i64 x.f1.f1]] ++ lb) W (RetB (.bool (g x)) W)) :
  Calls Try.prog 111 #[.slice A l.length c, .func (.func gs) #[] lb] w (RetB (.bool (l.any g)) w) := by
 have hcon := idx33_any gs lb g A c l w hC hc egs hg
 clear hg egs
 go_enter Try.func111, Try.ntmps111
 go_wp2_with fail
 (with_reducible refine hcon.mono ?_)
 clear hcon
 rintro e W1 ⟨rfl, mB⟩
 rcases idxI_any g l with ⟨h1, h2⟩ | ⟨h1, h2⟩
 ·have HA := Lib.hid h2
  have hd : decide (0 ≤ idxI g l) = false := decide_eq_false (by omega)
  clear h1 h2
  go_wp2
  go_ret
  exact ⟨by rw [HA.out]; rfl, mB⟩
 ·have HA := Lib.hid h2
  have hd : decide (0 ≤ idxI g l) = true := decide_eq_true (by omega)
  clear h1 h2
  go_wp2
  go_ret
  exact ⟨by rw [HA.out]; rfl, mB⟩

set_option maxRecDepth 100000 in
set_option maxHeartbeats 2000000 in
theorem idx29_any (gs : Nat) (lb : Array Value) (g : S29 → Bool) (A : Option Addr) (c : Nat) (l : List S29) (w : World) (hC : Kd.C k29 w A l.length l) (hc : l.length ≤ c)
  (egs : ∀ args w, (callFunc gs args).run Try.prog w = .ok (.enter gs args) w)
  (hg : ∀ x W, Below w.heap.size w W → Calls Try.prog gs (#[.agg #[.int .i64 x.f0.f0, .int .i64 x.f0.f1, .int .i64 x.f1.f0, .int .i64 x.f1.f1]] ++ lb) W (RetB (.bool (g x)) W)) :
  Calls Try.prog 159 #[.slice A l.length c, .func (.func gs) #[] lb] w (RetB (.int .i64 (idxI g l)) w) := by
 have hu29 := Try.underlying29
 have hu27 := Try.underlying27
 have hb := hC.2.1
 have HI : Hid (idxI g l = match l.findIdx? g with | none => -1 | some i => (i : Int)) := Lib.hid rfl
 go_enter Try.func159, Try.ntmps159
 go_wp2
 go_loopw [8] (fun i wr => ∃ (k : Nat), k ≤ l.length ∧ i = .int .i64 k ∧ Hid ((l.take k).any g = false) ∧ Below w.heap.size w wr) (fun i _ => l.length - (intOf i).toNat)
 case atStart => exact ⟨0, Nat.zero_le _, rfl, Lib.hid (by simp), Below.refl _ _⟩
 case round =>
  obtain ⟨k, hk, rfl, HA, mB⟩ := hrel
  by_cases hlt : k < l.length
  ·obtain ⟨ad, rfl, hx0, hx1, hx2, hx3⟩ := at_T29 hC k (by omega) (by omega)
   simp only [Int.toNat_natCast] at hx0 hx1 hx2 hx3
   replace hx0 := (mB.cell (World.block_lt_of_cell? w _ hx0)).trans hx0
   replace hx1 := (mB.cell (World.block_lt_of_cell? w _ hx1)).trans hx1
   replace hx2 := (mB.cell (World.block_lt_of_cell? w _ hx2)).trans hx2
   replace hx3 := (mB.cell (World.block_lt_of_cell? w _ hx3)).trans hx3
   have hlk : l[k]? = some (rd_T29 l (k : Int)) := by simp [rd_T29, List.getD_eq_getElem?_getD, hlt]
   have htk : l.take (k + 1) = l.take k ++ [rd_T29 l (k : Int)] := by rw [List.take_add_one, hlk]; rfl
   generalize rd_T29 l (k : Int) = x at *
   have HT := Lib.hid htk
   have HK := Lib.hid hlk
   clear htk hlk
   go_wp2_with fail
   have hcon := hg x wr mB
   (with_reducible refine hcon.mono ?_)
   clear hcon hx0 hx1 hx2 hx3
   rintro e W1 ⟨rfl, hb1⟩
   replace mB := below_step mB hb1
   clear hb1
   cases hbx : g x with
   | true =>
    have HE := Lib.hid (HI.out.trans (by rw [findIdx_at HK.out HA.out hbx]))
    clear hbx
    go_wp2
    go_ret
    exact ⟨by rw [HE.out]; rfl, mB⟩
   | false =>
    have HB := Lib.hid hbx
    clear hbx
    go_wp2
    go_roundw
    case rel => exact ⟨k + 1, by omega, by simp, Lib.hid zq19, mB⟩
    case measure => simp [intOf]; omega
  ·obtain rfl : k = l.length := by omega
   rw [List.take_length] at HA
   have hn : l.findIdx? g = none := by
    rw [List.findIdx?_eq_none_iff]
    intro x hx
    have := List.any_eq_false.1 HA.out x hx
    simpa using this
   have HE := Lib.hid (HI.out.trans (by rw [hn]))
   clear hn
   go_wp2
   go_ret
   exact ⟨by rw [HE.out]; rfl, mB⟩
set_option maxHeartbeats 1000000 in
theorem cont29_any (gs : Nat) (lb : Array Value) (g : S29 → Bool) (A : Option Addr) (c : Nat) (l : List S29) (w : World) (hC : Kd.C k29 w A l.length l) (hc : l.length ≤ c)
  (egs : ∀ args w, (callFunc gs args).run Try.prog w = .ok (.enter gs args) w)
  (hg : ∀ x W, Below w.heap.size w W → Calls Try.prog gs (#[.agg #[.int .i64 x.f0.f0, .int .i64 x.f0.f1, .int .i64 x.f1.f0, .int .i64 x.f1.f1]] ++ lb) W (RetB (.bool (g x)) W)) :
  Calls Try.prog 122 #[.slice A l.length c, .func (.func gs) #[] lb] w (RetB (.bool (l.any g)) w) := by
 have hcon := idx29_any gs lb g A c l w hC hc egs hg
 clear hg egs
 go_enter Try.func122, Try.ntmps122
 go_wp2_with fail
 (with_reducible refine hcon.mono ?_)
 clear hcon
 rintro e W1 ⟨rfl, mB⟩
 rcases idxI_any g l with ⟨h1, h2⟩ | ⟨h1, h2⟩
 ·have HA := Lib.hid h2
  have hd : decide (0 ≤ idxI g l) = false := decide_eq_false (by omega)
  clear h1 h2
  go_wp2
  go_ret
  exact ⟨by rw [HA.out]; rfl, mB⟩
 ·have HA := Lib.hid h2
  have hd : decide (0 ≤ idxI g l) = true := decide_eq_true (by omega)
  clear h1 h2
  go_wp2
  go_ret
  exact ⟨by rw [HA.out]; rfl, mB⟩

/-- Is a current not valid? -/
def badC (most : Int) (c : S33) : Bool := !bndB c.f0.f0 c.f0.f1 (-most) most || !bndB c.f1.f0 c.f1.f1 (-most) most
set_option maxRecDepth 100000 in
set_option maxHeartbeats 2000000 in
theorem cs1_any (g1 : Nat) (s : Sea) (A7 A8 : Option Addr) (c7 c8 : Nat) (c : S33) (w : World) (hm0 : 0 ≤ s.most) (hm1 : s.most ≤ 5000) (hB : Blk w g1 #[.int .i64 s.nx, .int .i64 s.ny, .int .i64 s.cell, .int .i64 s.slot, .int .i64 s.slots, .int .i64 s.layers, .int .i64 s.most, .slice A7 s.shores.length c7, .slice A8 s.currents.length c8] 25) :
  Calls Try.prog 112 #[.agg #[.int .i64 c.f0.f0, .int .i64 c.f0.f1, .int .i64 c.f1.f0, .int .i64 c.f1.f1], .pointer (some ⟨g1, 0, none⟩)] w (RetB (.bool (badC s.most c)) w) := by
 have hu33 := Try.underlying33
 have hu27 := Try.underlying27
 have HB : Hid (badC s.most c = (!bndB c.f0.f0 c.f0.f1 (-s.most) s.most || !bndB c.f1.f0 c.f1.f1 (-s.most) s.most)) := Lib.hid rfl
 have c6 : ∀ o_, (w.alloc o_).cell? ⟨g1, 6, none⟩ = some (.int .i64 s.most) := fun o_ => (blk_cell (blk_alloc hB o_) 6).trans rfl
 go_enter Try.func112, Try.ntmps112
 go_wp2_with fail
 clear c6
 have m1 := hB
 clear hB
 have hl_1 := blk_lt m1
 have m2 : Blk (w.alloc (.cells #[.int .i64 c.f0.f0, .int .i64 c.f0.f1, .int .i64 c.f1.f0, .int .i64 c.f1.f1] 33)) (w.heap.size) #[.int .i64 c.f0.f0, .int .i64 c.f0.f1, .int .i64 c.f1.f0, .int .i64 c.f1.f1] 33 := (by have h_ := blk_new w (.cells #[.int .i64 c.f0.f0, .int .i64 c.f0.f1, .int .i64 c.f1.f0, .int .i64 c.f1.f1] 33); first | exact h_ | (simp only [World.size_alloc] at h_; exact h_))
 replace m1 : Blk (w.alloc (.cells #[.int .i64 c.f0.f0, .int .i64 c.f0.f1, .int .i64 c.f1.f0, .int .i64 c.f1.f1] 33)) g1 #[.int .i64 s.nx, .int .i64 s.ny, .int .i64 s.cell, .int .i64 s.slot, .int .i64 s.slots, .int .i64 s.layers, .int .i64 s.most, .slice A7 s.shores.length c7, .slice A8 s.currents.length c8] 25 := (blk_alloc m1 _)
 have mB : Below w.heap.size w (w.alloc (.cells #[.int .i64 c.f0.f0, .int .i64 c.f0.f1, .int .i64 c.f1.f0, .int .i64 c.f1.f1] 33)) := (below_alloc (Below.refl w.heap.size w) _)
 have hsz_ : w.heap.size ≤ w.heap.size := Nat.le_refl _
 generalize hW_ : (w.alloc (.cells #[.int .i64 c.f0.f0, .int .i64 c.f0.f1, .int .i64 c.f1.f0, .int .i64 c.f1.f1] 33)) = W1 at m1 m2 mB ⊢
 clear hW_
 generalize hg2 : w.heap.size = g2 at m2 ⊢
 have hn_1_2 : g1 ≠ g2 := by omega
 have hn_2_1 : g2 ≠ g1 := hn_1_2.symm
 have hG2 : w.heap.size ≤ g2 := by omega
 clear hsz_ hl_1
 try clear hg2
 have hs_W1 : w.heap.size ≤ W1.heap.size := mB.size
 have hcon := bnd_any c.f0.f0 c.f0.f1 (-s.most) s.most W1
 (with_reducible refine hcon.mono ?_)
 clear hcon
 rintro e W2 ⟨rfl, hb⟩
 replace m1 := blk_below m1 hb
 replace m2 := blk_below m2 hb
 replace mB := below_step mB hb
 clear hb
 have hs_W2 : w.heap.size ≤ W2.heap.size := mB.size
 cases h0 : bndB c.f0.f0 c.f0.f1 (-s.most) s.most with
 | false =>
  have HR := Lib.hid (HB.out.trans (by rw [h0]; rfl : _ = true))
  clear h0 HB
  go_wp2
  go_ret
  exact ⟨zq17, mB⟩
 | true =>
  have H0 := Lib.hid h0
  clear h0
  obtain ⟨c2_0, c2_1, c2_2, c2_3⟩ := zcs4 m2
  have c6 := (blk_cell m1 6).trans rfl
  go_wp2_with fail
  clear c2_0 c2_1 c2_2 c2_3 c6
  have hcon := bnd_any c.f1.f0 c.f1.f1 (-s.most) s.most W2
  (with_reducible refine hcon.mono ?_)
  clear hcon
  rintro e W3 ⟨rfl, hb⟩
  replace m1 := blk_below m1 hb
  replace m2 := blk_below m2 hb
  replace mB := below_step mB hb
  clear hb
  have hs_W3 : w.heap.size ≤ W3.heap.size := mB.size
  cases h1 : bndB c.f1.f0 c.f1.f1 (-s.most) s.most with
  | false =>
   have HR := Lib.hid (HB.out.trans (by rw [H0.out, h1]; rfl : _ = true))
   clear h1 HB
   go_wp2
   go_ret
   exact ⟨zq17, mB⟩
  | true =>
   have HR := Lib.hid (HB.out.trans (by rw [H0.out, h1]; rfl : _ = false))
   clear h1 HB
   go_wp2
   go_ret
   exact ⟨zq17, mB⟩

/-- Is a sea valid? -/
def seaB (s : Sea) : Bool := btwB s.nx 1 12 && btwB s.ny 1 12 && btwB s.cell 100 65536 && btwB s.slot 1 1048576 && btwB s.slots 1 16 && btwB s.layers 1 3 && btwB s.most 0 5000 && decide ((s.shores.length : Int) = s.nx * s.ny) && decide ((s.currents.length : Int) = s.slots * s.layers * (s.nx * s.ny)) && !s.currents.any (badC s.most)
def seaE (s : Sea) : Int := if seaB s then 0 else 2
set_option maxRecDepth 100000 in
set_option maxHeartbeats 8000000 in
theorem sea_any (s : Sea) (A7 A8 : Option Addr) (c7 c8 : Nat) (w : World) (h7 : s.shores.length ≤ c7) (hC7 : Kd.C Kd.bool w A7 s.shores.length s.shores) (h8 : s.currents.length ≤ c8) (hC8 : Kd.C k33 w A8 s.currents.length s.currents) :
  Calls Try.prog 50 #[.agg #[.int .i64 s.nx, .int .i64 s.ny, .int .i64 s.cell, .int .i64 s.slot, .int .i64 s.slots, .int .i64 s.layers, .int .i64 s.most, .slice A7 s.shores.length c7, .slice A8 s.currents.length c8]] w (RetB (.int .i64 (seaE s)) w) := by
 have hu25 := Try.underlying25
 have hb7 := hC7.2.1
 have hb8 := hC8.2.1
 have HE : Hid (seaE s = if seaB s then 0 else 2) := Lib.hid rfl
 have HB : Hid (seaB s = (btwB s.nx 1 12 && btwB s.ny 1 12 && btwB s.cell 100 65536 && btwB s.slot 1 1048576 && btwB s.slots 1 16 && btwB s.layers 1 3 && btwB s.most 0 5000 && decide ((s.shores.length : Int) = s.nx * s.ny) && decide ((s.currents.length : Int) = s.slots * s.layers * (s.nx * s.ny)) && !s.currents.any (badC s.most))) := Lib.hid rfl
 go_enter Try.func50, Try.ntmps50
 go_wp2_with fail
 have m1 : Blk (w.alloc (.cells #[.int .i64 s.nx, .int .i64 s.ny, .int .i64 s.cell, .int .i64 s.slot, .int .i64 s.slots, .int .i64 s.layers, .int .i64 s.most, .slice A7 s.shores.length c7, .slice A8 s.currents.length c8] 25)) (w.heap.size) #[.int .i64 s.nx, .int .i64 s.ny, .int .i64 s.cell, .int .i64 s.slot, .int .i64 s.slots, .int .i64 s.layers, .int .i64 s.most, .slice A7 s.shores.length c7, .slice A8 s.currents.length c8] 25 := zq20
 have mB : Below w.heap.size w (w.alloc (.cells #[.int .i64 s.nx, .int .i64 s.ny, .int .i64 s.cell, .int .i64 s.slot, .int .i64 s.slots, .int .i64 s.layers, .int .i64 s.most, .slice A7 s.shores.length c7, .slice A8 s.currents.length c8] 25)) := (below_alloc (Below.refl w.heap.size w) _)
 have hsz_ : w.heap.size ≤ w.heap.size := Nat.le_refl _
 generalize hW_ : (w.alloc (.cells #[.int .i64 s.nx, .int .i64 s.ny, .int .i64 s.cell, .int .i64 s.slot, .int .i64 s.slots, .int .i64 s.layers, .int .i64 s.most, .slice A7 s.shores.length c7, .slice A8 s.currents.length c8] 25)) = W0 at m1 mB ⊢
 clear hW_
 generalize hg1 : w.heap.size = g1 at m1 ⊢
 have hG1 : w.heap.size ≤ g1 := by omega
 clear hsz_
 try clear hg1
 have hs_W0 : w.heap.size ≤ W0.heap.size := mB.size
 have hcon := btw_any s.nx 1 12 W0
 (with_reducible refine hcon.mono ?_)
 clear hcon
 rintro e W1 ⟨rfl, hb⟩
 replace m1 := blk_below m1 hb
 replace mB := below_step mB hb
 clear hb
 have hs_W1 : w.heap.size ≤ W1.heap.size := mB.size
 cases h_ : btwB s.nx 1 12 with
 | false =>
  have HZ : Hid (seaE s = 2) := Lib.hid (by rw [HE.out, HB.out, h_]; simp)
  clear h_ HE HB
  go_wp2
  go_ret
  exact ⟨zq21, mB⟩
 | true =>
  have b0 := btwB_iff.1 h_
  have H0 := Lib.hid h_
  clear h_
  obtain ⟨c1_0, c1_1, c1_2, c1_3, c1_4, c1_5, c1_6, c1_7, c1_8⟩ := zcs9 m1
  go_wp2_with fail
  clear c1_0 c1_1 c1_2 c1_3 c1_4 c1_5 c1_6 c1_7 c1_8
  have hcon := btw_any s.ny 1 12 W1
  (with_reducible refine hcon.mono ?_)
  clear hcon
  rintro e W2 ⟨rfl, hb⟩
  replace m1 := blk_below m1 hb
  replace mB := below_step mB hb
  clear hb
  have hs_W2 : w.heap.size ≤ W2.heap.size := mB.size
  cases h_ : btwB s.ny 1 12 with
  | false =>
   have HZ : Hid (seaE s = 2) := Lib.hid (by rw [HE.out, HB.out, H0.out, h_]; simp)
   clear h_ HE HB
   go_wp2
   go_ret
   exact ⟨zq21, mB⟩
  | true =>
   have b1 := btwB_iff.1 h_
   have H1 := Lib.hid h_
   clear h_
   obtain ⟨c1_0, c1_1, c1_2, c1_3, c1_4, c1_5, c1_6, c1_7, c1_8⟩ := zcs9 m1
   go_wp2_with fail
   clear c1_0 c1_1 c1_2 c1_3 c1_4 c1_5 c1_6 c1_7 c1_8
   have hcon := btw_any s.cell 100 65536 W2
   (with_reducible refine hcon.mono ?_)
   clear hcon
   rintro e W3 ⟨rfl, hb⟩
   replace m1 := blk_below m1 hb
   replace mB := below_step mB hb
   clear hb
   have hs_W3 : w.heap.size ≤ W3.heap.size := mB.size
   cases h_ : btwB s.cell 100 65536 with
   | false =>
    have HZ : Hid (seaE s = 2) := Lib.hid (by rw [HE.out, HB.out, H0.out, H1.out, h_]; simp)
    clear h_ HE HB
    go_wp2
    go_ret
    exact ⟨zq21, mB⟩
   | true =>
    have b2 := btwB_iff.1 h_
    have H2 := Lib.hid h_
    clear h_
    obtain ⟨c1_0, c1_1, c1_2, c1_3, c1_4, c1_5, c1_6, c1_7, c1_8⟩ := zcs9 m1
    go_wp2_with fail
    clear c1_0 c1_1 c1_2 c1_3 c1_4 c1_5 c1_6 c1_7 c1_8
    have hcon := btw_any s.slot 1 1048576 W3
    (with_reducible refine hcon.mono ?_)
    clear hcon
    rintro e W4 ⟨rfl, hb⟩
    replace m1 := blk_below m1 hb
    replace mB := below_step mB hb
    clear hb
    have hs_W4 : w.heap.size ≤ W4.heap.size := mB.size
    cases h_ : btwB s.slot 1 1048576 with
    | false =>
     have HZ : Hid (seaE s = 2) := Lib.hid (by rw [HE.out, HB.out, H0.out, H1.out, H2.out, h_]; simp)
     clear h_ HE HB
     go_wp2
     go_ret
     exact ⟨zq21, mB⟩
    | true =>
     have b3 := btwB_iff.1 h_
     have H3 := Lib.hid h_
     clear h_
     obtain ⟨c1_0, c1_1, c1_2, c1_3, c1_4, c1_5, c1_6, c1_7, c1_8⟩ := zcs9 m1
     go_wp2_with fail
     clear c1_0 c1_1 c1_2 c1_3 c1_4 c1_5 c1_6 c1_7 c1_8
     have hcon := btw_any s.slots 1 16 W4
     (with_reducible refine hcon.mono ?_)
     clear hcon
     rintro e W5 ⟨rfl, hb⟩
     replace m1 := blk_below m1 hb
     replace mB := below_step mB hb
     clear hb
     have hs_W5 : w.heap.size ≤ W5.heap.size := mB.size
     cases h_ : btwB s.slots 1 16 with
     | false =>
      have HZ : Hid (seaE s = 2) := Lib.hid (by rw [HE.out, HB.out, H0.out, H1.out, H2.out, H3.out, h_]; simp)
      clear h_ HE HB
      go_wp2
      go_ret
      exact ⟨zq21, mB⟩
     | true =>
      have b4 := btwB_iff.1 h_
      have H4 := Lib.hid h_
      clear h_
      obtain ⟨c1_0, c1_1, c1_2, c1_3, c1_4, c1_5, c1_6, c1_7, c1_8⟩ := zcs9 m1
      go_wp2_with fail
      clear c1_0 c1_1 c1_2 c1_3 c1_4 c1_5 c1_6 c1_7 c1_8
      have hcon := btw_any s.layers 1 3 W5
      (with_reducible refine hcon.mono ?_)
      clear hcon
      rintro e W6 ⟨rfl, hb⟩
      replace m1 := blk_below m1 hb
      replace mB := below_step mB hb
      clear hb
      have hs_W6 : w.heap.size ≤ W6.heap.size := mB.size
      cases h_ : btwB s.layers 1 3 with
      | false =>
       have HZ : Hid (seaE s = 2) := Lib.hid (by rw [HE.out, HB.out, H0.out, H1.out, H2.out, H3.out, H4.out, h_]; simp)
       clear h_ HE HB
       go_wp2
       go_ret
       exact ⟨zq21, mB⟩
      | true =>
       have b5 := btwB_iff.1 h_
       have H5 := Lib.hid h_
       clear h_
       obtain ⟨c1_0, c1_1, c1_2, c1_3, c1_4, c1_5, c1_6, c1_7, c1_8⟩ := zcs9 m1
       go_wp2_with fail
       clear c1_0 c1_1 c1_2 c1_3 c1_4 c1_5 c1_6 c1_7 c1_8
       have hcon := btw_any s.most 0 5000 W6
       (with_reducible refine hcon.mono ?_)
       clear hcon
       rintro e W7 ⟨rfl, hb⟩
       replace m1 := blk_below m1 hb
       replace mB := below_step mB hb
       clear hb
       have hs_W7 : w.heap.size ≤ W7.heap.size := mB.size
       cases h_ : btwB s.most 0 5000 with
       | false =>
        have HZ : Hid (seaE s = 2) := Lib.hid (by rw [HE.out, HB.out, H0.out, H1.out, H2.out, H3.out, H4.out, H5.out, h_]; simp)
        clear h_ HE HB
        go_wp2
        go_ret
        exact ⟨zq21, mB⟩
       | true =>
        have b6 := btwB_iff.1 h_
        have H6 := Lib.hid h_
        clear h_
        have p1 := mul_in (show 0 ≤ s.nx by omega) b0.2 (show 0 ≤ s.ny by omega) b1.2
        have p2 := mul_in (show 0 ≤ s.slots by omega) b4.2 (show 0 ≤ s.layers by omega) b5.2
        have p3 := mul_in p2.1 p2.2 p1.1 p1.2
        have e1 : wrap64 (s.nx * s.ny) = s.nx * s.ny := by unfold wrap64; omega
        have HN := Lib.hid e1
        try rw [e1]
        clear e1
        by_cases q7 : (s.shores.length : Int) = s.nx * s.ny
        case neg =>
         have h_ : decide ((s.shores.length : Int) = s.nx * s.ny) = false := decide_eq_false q7
         have e_ : ((s.shores.length : Int) == s.nx * s.ny) = false := beq_eq_false_iff_ne.2 q7
         have e2_ : ((s.shores.length : Int) != s.nx * s.ny) = true := by rw [bne, e_]; rfl
         clear q7
         obtain ⟨c1_0, c1_1, c1_2, c1_3, c1_4, c1_5, c1_6, c1_7, c1_8⟩ := zcs9 m1
         have HZ : Hid (seaE s = 2) := Lib.hid (by rw [HE.out, HB.out, H0.out, H1.out, H2.out, H3.out, H4.out, H5.out, H6.out, h_]; simp)
         clear h_ HE HB
         go_wp2
         go_ret
         exact ⟨zq21, mB⟩
        case pos =>
         have h_ : decide ((s.shores.length : Int) = s.nx * s.ny) = true := decide_eq_true q7
         have H7 := Lib.hid h_
         have f7 : ((s.shores.length : Int) == s.nx * s.ny) = true := beq_iff_eq.2 q7
         have g7 : ((s.shores.length : Int) != s.nx * s.ny) = false := by rw [bne, f7]; rfl
         clear h_ q7
         by_cases q8 : (s.currents.length : Int) = s.slots * s.layers * (s.nx * s.ny)
         case neg =>
          have h_ : decide ((s.currents.length : Int) = s.slots * s.layers * (s.nx * s.ny)) = false := decide_eq_false q8
          have e_ : ((s.currents.length : Int) == s.slots * s.layers * (s.nx * s.ny)) = false := beq_eq_false_iff_ne.2 q8
          have e2_ : ((s.currents.length : Int) != s.slots * s.layers * (s.nx * s.ny)) = true := by rw [bne, e_]; rfl
          clear q8
          obtain ⟨c1_0, c1_1, c1_2, c1_3, c1_4, c1_5, c1_6, c1_7, c1_8⟩ := zcs9 m1
          have HZ : Hid (seaE s = 2) := Lib.hid (by rw [HE.out, HB.out, H0.out, H1.out, H2.out, H3.out, H4.out, H5.out, H6.out, H7.out, h_]; simp)
          clear h_ HE HB
          go_wp2
          go_ret
          exact ⟨zq21, mB⟩
         case pos =>
          have h_ : decide ((s.currents.length : Int) = s.slots * s.layers * (s.nx * s.ny)) = true := decide_eq_true q8
          have H8 := Lib.hid h_
          have f8 : ((s.currents.length : Int) == s.slots * s.layers * (s.nx * s.ny)) = true := beq_iff_eq.2 q8
          have g8 : ((s.currents.length : Int) != s.slots * s.layers * (s.nx * s.ny)) = false := by rw [bne, f8]; rfl
          clear h_ q8
          obtain ⟨c1_0, c1_1, c1_2, c1_3, c1_4, c1_5, c1_6, c1_7, c1_8⟩ := zcs9 m1
          go_wp2_with fail
          clear c1_0 c1_1 c1_2 c1_3 c1_4 c1_5 c1_6 c1_7 c1_8
          have hcon := cont33_any 112 #[.pointer (some ⟨g1, 0, none⟩)] (badC s.most) A8 c8 s.currents W7 (Kd.C_below hC8 mB) h8 (enters_of Try.func112 zq3 rfl) (fun x W hW => cs1_any g1 s A7 A8 c7 c8 x W b6.1 b6.2 (blk_below m1 hW))
          (with_reducible refine hcon.mono ?_)
          clear hcon
          rintro e W8 ⟨rfl, hb⟩
          replace m1 := blk_below m1 hb
          replace mB := below_step mB hb
          clear hb
          have hs_W8 : w.heap.size ≤ W8.heap.size := mB.size
          cases h_ : s.currents.any (badC s.most) with
          | true =>
           have HZ : Hid (seaE s = 2) := Lib.hid (by rw [HE.out, HB.out, H0.out, H1.out, H2.out, H3.out, H4.out, H5.out, H6.out, H7.out, H8.out, h_]; simp)
           clear h_ HE HB
           go_wp2
           go_ret
           exact ⟨zq21, mB⟩
          | false =>
           have HZ : Hid (seaE s = 0) := Lib.hid (by rw [HE.out, HB.out, H0.out, H1.out, H2.out, H3.out, H4.out, H5.out, H6.out, H7.out, H8.out, h_]; simp)
           clear h_ HE HB
           go_wp2
           go_ret
           exact ⟨zq21, mB⟩
end Go.Proofs.Ythglkoddmpicdaa.Gl
end
section
/- A span that is moved for a dive. -/
namespace Go.Proofs.Ythglkoddmpicdaa.Gl
open Go.RowKit Go.Shelf Go.Proofs.YthglkoddmpicdaaW.PrintWords Go.Proofs.YthglkoddmpicdaaW.PrintLast Go.Proofs.YthglkoddmpicdaaW.PrintMore Go.Proofs.Ythglkoddmpicdaa.Pr Go.Proofs.YthglkoddmpicdaaW.Round
set_option linter.unusedVariables false
set_option linter.unusedSimpArgs false
attribute [local go_sem] max2_int min2_int max_two min_two max_four
/-- Down and up to whole numbers of a million. -/
def downM (x : Int) : Int := x / 1000000
def upM (x : Int) : Int := -((-x) / 1000000)
/-- A span that is moved by a speed and a current, for a dive. -/
def shiftI (dive : Int) (a : S27) (speed : Int) (u : S27) : S27 := ⟨a.f0 + downM ((speed + 1000 * u.f0) * dive), a.f1 + upM ((speed + 1000 * u.f1) * dive)⟩
theorem mul_abs {a b m n : Int} (h0 : -m ≤ a) (h1 : a ≤ m) (h2 : 0 ≤ b) (h3 : b ≤ n) (hm : 0 ≤ m) : -(m * n) ≤ a * b ∧ a * b ≤ m * n := by
 have k1 := Int.mul_le_mul_of_nonneg_right h1 h2
 have k2 := Int.mul_le_mul_of_nonneg_left h3 hm
 have k3 := Int.mul_le_mul_of_nonneg_right h0 h2
 rw [Int.neg_mul] at k3
 omega
theorem tdm (X : Int) : X = 1000000 * Int.tdiv X 1000000 + Int.tmod X 1000000 ∧ (0 ≤ X → 0 ≤ Int.tmod X 1000000 ∧ Int.tmod X 1000000 < 1000000) ∧ (X < 0 → -1000000 < Int.tmod X 1000000 ∧ Int.tmod X 1000000 ≤ 0) := by
 refine ⟨(Int.mul_tdiv_add_tmod X 1000000).symm, fun h => ?_, fun h => ?_⟩
 ·rw [Int.tmod_eq_emod_of_nonneg h]
  omega
 ·have e : X = -(-X) := by omega
  rw [e, Int.neg_tmod, Int.tmod_eq_emod_of_nonneg (show 0 ≤ -X by omega)]
  omega
theorem ret_span {a b c d : Int} (h : a = c) (h2 : b = d) : Ending.returned (.agg #[.int .i64 a, .int .i64 b]) = Ending.returned (.agg #[.int .i64 c, .int .i64 d]) := by rw [h, h2]
set_option maxRecDepth 100000 in
set_option maxHeartbeats 4000000 in
theorem shift_any (b : Nat) (s : Sea) (v : Veh) (a : S27) (speed : Int) (u : S27) (w : World) (hT : TripAt w b s v) (hV : VehN v) (ha0 : -1099511627776 ≤ a.f0 ∧ a.f0 ≤ 1099511627776) (ha1 : -1099511627776 ≤ a.f1 ∧ a.f1 ≤ 1099511627776) (hs0 : -5000000 ≤ speed ∧ speed ≤ 5000000) (hu0 : -5000 ≤ u.f0 ∧ u.f0 ≤ 5000) (hu1 : -5000 ≤ u.f1 ∧ u.f1 ≤ 5000) :
  Calls Try.prog 161 #[.pointer (some ⟨b, 0, none⟩), .agg #[.int .i64 a.f0, .int .i64 a.f1], .int .i64 speed, .agg #[.int .i64 u.f0, .int .i64 u.f1]] w (RetB (.agg #[.int .i64 (shiftI v.dive a speed u).f0, .int .i64 (shiftI v.dive a speed u).f1]) w) := by
 have hu27 := Try.underlying27
 obtain ⟨A7, c7, A8, c8, hB, _⟩ := hT
 have hd := hV.dive
 have m0 := mul_abs (a := speed + 1000 * u.f0) (b := v.dive) (m := 10000000) (n := 131072) (by omega) (by omega) (by omega) (by omega) (by omega)
 have m1 := mul_abs (a := speed + 1000 * u.f1) (b := v.dive) (m := 10000000) (n := 131072) (by omega) (by omega) (by omega) (by omega) (by omega)
 clear hV
 have HR : Hid (shiftI v.dive a speed u = ⟨a.f0 + downM ((speed + 1000 * u.f0) * v.dive), a.f1 + upM ((speed + 1000 * u.f1) * v.dive)⟩) := Lib.hid rfl
 go_enter Try.func161, Try.ntmps161
 go_wp2_with fail
 have mT := hB
 clear hB
 have hl_T := blk_lt mT
 have m5 : Blk (((w.alloc (.cells #[.int .i64 a.f0, .int .i64 a.f1] 27)).alloc (.cells #[.int .i64 u.f0, .int .i64 u.f1] 27)).alloc (.cells #[.int .i64 0, .int .i64 0] 27)) (w.heap.size) #[.int .i64 a.f0, .int .i64 a.f1] 27 := (blk_alloc (blk_alloc zq22 _) _)
 have m7 : Blk (((w.alloc (.cells #[.int .i64 a.f0, .int .i64 a.f1] 27)).alloc (.cells #[.int .i64 u.f0, .int .i64 u.f1] 27)).alloc (.cells #[.int .i64 0, .int .i64 0] 27)) (w.heap.size + 1) #[.int .i64 u.f0, .int .i64 u.f1] 27 := (blk_alloc (by have h_ := blk_new (w.alloc (.cells #[.int .i64 a.f0, .int .i64 a.f1] 27)) (.cells #[.int .i64 u.f0, .int .i64 u.f1] 27); first | exact h_ | (simp only [World.size_alloc] at h_; exact h_)) _)
 have m8 : Blk (((w.alloc (.cells #[.int .i64 a.f0, .int .i64 a.f1] 27)).alloc (.cells #[.int .i64 u.f0, .int .i64 u.f1] 27)).alloc (.cells #[.int .i64 0, .int .i64 0] 27)) (w.heap.size + 1 + 1) #[.int .i64 0, .int .i64 0] 27 := (by have h_ := blk_new ((w.alloc (.cells #[.int .i64 a.f0, .int .i64 a.f1] 27)).alloc (.cells #[.int .i64 u.f0, .int .i64 u.f1] 27)) (.cells #[.int .i64 0, .int .i64 0] 27); first | exact h_ | (simp only [World.size_alloc] at h_; exact h_))
 replace mT : Blk (((w.alloc (.cells #[.int .i64 a.f0, .int .i64 a.f1] 27)).alloc (.cells #[.int .i64 u.f0, .int .i64 u.f1] 27)).alloc (.cells #[.int .i64 0, .int .i64 0] 27)) b #[.int .i64 s.nx, .int .i64 s.ny, .int .i64 s.cell, .int .i64 s.slot, .int .i64 s.slots, .int .i64 s.layers, .int .i64 s.most, .slice A7 s.shores.length c7, .slice A8 s.currents.length c8, .int .i64 v.speed, .int .i64 v.dive, .int .i64 v.use.f0, .int .i64 v.use.f1, .int .i64 v.drift.f0, .int .i64 v.drift.f1, .int .i64 v.reserve] 120 := (blk_alloc (blk_alloc (blk_alloc mT _) _) _)
 have mB : Below w.heap.size w (((w.alloc (.cells #[.int .i64 a.f0, .int .i64 a.f1] 27)).alloc (.cells #[.int .i64 u.f0, .int .i64 u.f1] 27)).alloc (.cells #[.int .i64 0, .int .i64 0] 27)) := (below_alloc (below_alloc (below_alloc (Below.refl w.heap.size w) _) _) _)
 have hsz_ : w.heap.size ≤ w.heap.size := Nat.le_refl _
 generalize hW_ : (((w.alloc (.cells #[.int .i64 a.f0, .int .i64 a.f1] 27)).alloc (.cells #[.int .i64 u.f0, .int .i64 u.f1] 27)).alloc (.cells #[.int .i64 0, .int .i64 0] 27)) = W1 at mT m5 m7 m8 mB ⊢
 clear hW_
 generalize hg5 : w.heap.size = g5 at m5 m7 m8 ⊢
 have hn_T_5 : b ≠ g5 := by omega
 have hn_5_T : g5 ≠ b := hn_T_5.symm
 have hG5 : w.heap.size ≤ g5 := by omega
 generalize hg7 : g5 + 1 = g7 at m7 m8 ⊢
 have hn_T_7 : b ≠ g7 := by omega
 have hn_5_7 : g5 ≠ g7 := by omega
 have hn_7_T : g7 ≠ b := hn_T_7.symm
 have hn_7_5 : g7 ≠ g5 := hn_5_7.symm
 have hG7 : w.heap.size ≤ g7 := by omega
 generalize hg8 : g7 + 1 = g8 at m8 ⊢
 have hn_T_8 : b ≠ g8 := by omega
 have hn_5_8 : g5 ≠ g8 := by omega
 have hn_7_8 : g7 ≠ g8 := by omega
 have hn_8_T : g8 ≠ b := hn_T_8.symm
 have hn_8_5 : g8 ≠ g5 := hn_5_8.symm
 have hn_8_7 : g8 ≠ g7 := hn_7_8.symm
 have hG8 : w.heap.size ≤ g8 := by omega
 clear hsz_ hl_T
 try clear hg8
 try clear hg7
 try clear hg5
 have hs_W1 : w.heap.size ≤ W1.heap.size := mB.size
 replace mT := blk_drew mT
 replace m5 := blk_drew m5
 replace m7 := blk_drew m7
 replace m8 := blk_drew m8
 replace mB := below_drew1 mB
 have wf0_1 : wrap64 (1000 * u.f0) = 1000 * u.f0 := by unfold wrap64; omega
 have wf0_2 : wrap64 (speed + 1000 * u.f0) = speed + 1000 * u.f0 := by unfold wrap64; omega
 have wf0_3 : wrap64 ((speed + 1000 * u.f0) * v.dive) = (speed + 1000 * u.f0) * v.dive := by unfold wrap64; omega
 have wf1_1 : wrap64 (1000 * u.f1) = 1000 * u.f1 := by unfold wrap64; omega
 have wf1_2 : wrap64 (speed + 1000 * u.f1) = speed + 1000 * u.f1 := by unfold wrap64; omega
 have wf1_3 : wrap64 ((speed + 1000 * u.f1) * v.dive) = (speed + 1000 * u.f1) * v.dive := by unfold wrap64; omega
 refine start_ (n := 25) (S := fun w' => w'.cell? ⟨g7, 0, none⟩ = some (.int .i64 u.f0) ∧ w'.cell? ⟨g7, 1, none⟩ = some (.int .i64 u.f1) ∧ w'.cell? ⟨g5, 0, none⟩ = some (.int .i64 a.f0) ∧ w'.cell? ⟨g5, 1, none⟩ = some (.int .i64 a.f1) ∧ w'.cell? ⟨b, 10, none⟩ = some (.int .i64 v.dive)) (ds := [24]) #[false, false, false, false, false, false, false, false, false, false, false, false, false, false, false, false, false, false, false, false, false, false, false, false, false] zq3 rfl rfl ⟨((blk_cell m7 0).trans rfl), ((blk_cell m7 1).trans rfl), ((blk_cell m5 0).trans rfl), ((blk_cell m5 1).trans rfl), ((blk_cell mT 10).trans rfl)⟩ (fun hHeld => ?_)
 generalize hWd : World.drew _ = Wx at mB mT m5 m7 m8 hHeld ⊢
 clear hWd
 refine zpz (i := 0) (N := some 12) zq3 ?_
 refine zpz (i := 1) (N := some 13) zq3 ?_
 refine zpz (i := 5) (N := some 17) zq3 ?_
 refine zpz (i := 6) (N := some 18) zq3 ?_
 refine zpz (i := 7) (N := some 19) zq3 ?_
 refine zpz (i := 8) (N := some 20) zq3 ?_
 refine zpz (i := 11) (N := some 23) zq3 ?_
 refine zpz (i := 12) (N := some 24) zq3 ?_
 refine zpz (i := 16) (N := some 28) zq3 ?_
 refine zpz (i := 17) (N := some 29) zq3 ?_
 refine zpz (i := 18) (N := some 30) zq3 ?_
 refine zpz (i := 19) (N := some 31) zq3 ?_
 refine ztz (i := 2) (N := some 14) zq3 hHeld ?_
 refine zpz (i := 3) (N := some 15) zq3 ?_
 refine zpz (i := 4) (N := some 16) zq3 ?_
 refine ztz (i := 9) (N := some 21) zq3 hHeld ?_
 refine zpz (i := 10) (N := some 22) zq3 ?_
 refine ztz (i := 13) (N := some 25) zq3 hHeld ?_
 refine zpz (i := 14) (N := some 26) zq3 ?_
 refine zpz (i := 15) (N := some 27) zq3 ?_
 refine ztz (i := 20) (N := some 32) zq3 hHeld ?_
 refine zpz (i := 21) (N := some 33) zq3 ?_
 refine zpz (i := 22) (N := some 34) zq3 ?_
 refine one_ (i := 23) (N := some 9) #[true, true, true, true, true, true, true, true, true, true, true, true, true, true, true, true, true, true, true, true, true, true, true, true, false] rfl rfl zq3 (by decide) (fun K hK => ?_)
 refine value_ (w1 := ?_) (v := ?_) (by rfl) rfl ?_ ?_
 rotate_left 2
 ·go_simp
  constructor
  ·rfl
  ·rfl
 refine hK.out _ _ ⟨((blk_cell (blk_alloc m7 (.cells #[.int .i64 0, .int .i64 0] 27)) 0).trans rfl), ((blk_cell (blk_alloc m7 (.cells #[.int .i64 0, .int .i64 0] 27)) 1).trans rfl), ((blk_cell (blk_alloc m5 (.cells #[.int .i64 0, .int .i64 0] 27)) 0).trans rfl), ((blk_cell (blk_alloc m5 (.cells #[.int .i64 0, .int .i64 0] 27)) 1).trans rfl), ((blk_cell (blk_alloc mT (.cells #[.int .i64 0, .int .i64 0] 27)) 10).trans rfl)⟩ (fun hHeld => ?_)
 clear hK K
 refine norm_ zq23 ?_
 refine last_ (i := 24) (N := none) #[true, true, true, true, true, true, true, true, true, true, true, true, true, true, true, true, true, true, true, true, true, true, true, true, true] rfl rfl zq3 (by decide) (fun K hK => ?_)
 have hq_ := blk_new Wx (.cells #[.int .i64 0, .int .i64 0] 27)
 have hf0_ := blk_frozen hq_ 0
 have hf1_ := blk_frozen hq_ 1
 have hc0_ := (blk_cell hq_ 0).trans rfl
 have hc1_ := (blk_cell hq_ 1).trans rfl
 refine skip_ (w1 := ?_) (by rfl) rfl ?_ ?_
 rotate_left
 ·go_simp
  rfl
 clear hq_ hf0_ hf1_ hc0_ hc1_
 refine hK.out _ _ ?_
 clear hK K
 refine done_ zq3 ?_
 clear wf0_1 wf0_2 wf0_3
 clear wf1_1 wf1_2 wf1_3
 have hs_Wx : w.heap.size ≤ Wx.heap.size := mB.size
 have hl_T := blk_lt mT
 have hl_5 := blk_lt m5
 have hl_7 := blk_lt m7
 have hl_8 := blk_lt m8
 have m9 : Blk (Wx.alloc (.cells #[.int .i64 ((speed + 1000 * u.f0) * v.dive), .int .i64 ((speed + 1000 * u.f1) * v.dive)] 27)) (Wx.heap.size) #[.int .i64 ((speed + 1000 * u.f0) * v.dive), .int .i64 ((speed + 1000 * u.f1) * v.dive)] 27 := (by have h_ := blk_new Wx (.cells #[.int .i64 ((speed + 1000 * u.f0) * v.dive), .int .i64 ((speed + 1000 * u.f1) * v.dive)] 27); first | exact h_ | (simp only [World.size_alloc] at h_; exact h_))
 replace mT : Blk (Wx.alloc (.cells #[.int .i64 ((speed + 1000 * u.f0) * v.dive), .int .i64 ((speed + 1000 * u.f1) * v.dive)] 27)) b #[.int .i64 s.nx, .int .i64 s.ny, .int .i64 s.cell, .int .i64 s.slot, .int .i64 s.slots, .int .i64 s.layers, .int .i64 s.most, .slice A7 s.shores.length c7, .slice A8 s.currents.length c8, .int .i64 v.speed, .int .i64 v.dive, .int .i64 v.use.f0, .int .i64 v.use.f1, .int .i64 v.drift.f0, .int .i64 v.drift.f1, .int .i64 v.reserve] 120 := (blk_alloc mT _)
 replace m5 : Blk (Wx.alloc (.cells #[.int .i64 ((speed + 1000 * u.f0) * v.dive), .int .i64 ((speed + 1000 * u.f1) * v.dive)] 27)) g5 #[.int .i64 a.f0, .int .i64 a.f1] 27 := (blk_alloc m5 _)
 replace m7 : Blk (Wx.alloc (.cells #[.int .i64 ((speed + 1000 * u.f0) * v.dive), .int .i64 ((speed + 1000 * u.f1) * v.dive)] 27)) g7 #[.int .i64 u.f0, .int .i64 u.f1] 27 := (blk_alloc m7 _)
 replace m8 : Blk (Wx.alloc (.cells #[.int .i64 ((speed + 1000 * u.f0) * v.dive), .int .i64 ((speed + 1000 * u.f1) * v.dive)] 27)) g8 #[.int .i64 0, .int .i64 0] 27 := (blk_alloc m8 _)
 replace mB : Below w.heap.size w (Wx.alloc (.cells #[.int .i64 ((speed + 1000 * u.f0) * v.dive), .int .i64 ((speed + 1000 * u.f1) * v.dive)] 27)) := (below_alloc mB _)
 have hsz_ : w.heap.size ≤ Wx.heap.size := hs_Wx
 generalize hW_ : (Wx.alloc (.cells #[.int .i64 ((speed + 1000 * u.f0) * v.dive), .int .i64 ((speed + 1000 * u.f1) * v.dive)] 27)) = W2 at mT m5 m7 m8 m9 mB ⊢
 clear hW_
 generalize hg9 : Wx.heap.size = g9 at m9 ⊢
 have hn_T_9 : b ≠ g9 := by omega
 have hn_5_9 : g5 ≠ g9 := by omega
 have hn_7_9 : g7 ≠ g9 := by omega
 have hn_8_9 : g8 ≠ g9 := by omega
 have hn_9_T : g9 ≠ b := hn_T_9.symm
 have hn_9_5 : g9 ≠ g5 := hn_5_9.symm
 have hn_9_7 : g9 ≠ g7 := hn_7_9.symm
 have hn_9_8 : g9 ≠ g8 := hn_8_9.symm
 have hG9 : w.heap.size ≤ g9 := by omega
 clear hsz_ hl_T hl_5 hl_7 hl_8
 try clear hg9
 have hs_W2 : w.heap.size ≤ W2.heap.size := mB.size
 have t0 := tdm ((speed + 1000 * u.f0) * v.dive)
 have t1 := tdm ((speed + 1000 * u.f1) * v.dive)
 generalize (speed + 1000 * u.f0) * v.dive = X at *
 generalize (speed + 1000 * u.f1) * v.dive = Y at *
 generalize hq0 : Int.tdiv X 1000000 = q0 at *
 generalize hr0 : Int.tmod X 1000000 = r0 at *
 generalize hq1 : Int.tdiv Y 1000000 = q1 at *
 generalize hr1 : Int.tmod Y 1000000 = r1 at *
 have bq0 : -10000000000000 ≤ q0 ∧ q0 ≤ 10000000000000 := by omega
 have bq1 : -10000000000000 ≤ q1 ∧ q1 ≤ 10000000000000 := by omega
 have T0 := Lib.hid t0
 have T1 := Lib.hid t1
 clear t0 t1
 obtain ⟨c5_0, c5_1⟩ := zcs2 m5
 obtain ⟨c9_0, c9_1⟩ := zcs2 m9
 obtain ⟨c8_0, c8_1, f8_0, f8_1⟩ := zce2 m8
 go_wp2_with fail
 go_quiet (fail)
 clear hq0 hq1
 go_wp2
 all_goals
  have t0 := T0.out
  have t1 := T1.out
  try simp only [bne_iff_ne, ne_eq, bne_eq_false_iff_eq] at *
  exact bodyPost_ret (results_cell_row rfl _ _ g8 27 #[_, _] (0, 0) _ rfl (blk_put (blk_put (blk_drewN m8 _) 0 _ rfl) 1 _ rfl) Try.underlying27 rfl zq3) rfl ⟨ret_span (by rw [HR.out]; unfold downM; dsimp only; omega) (by rw [HR.out]; unfold upM; dsimp only; omega), (((pw_below_drewN mB) _).setCell hG8 _).setCell hG8 _⟩
end Go.Proofs.Ythglkoddmpicdaa.Gl
end
