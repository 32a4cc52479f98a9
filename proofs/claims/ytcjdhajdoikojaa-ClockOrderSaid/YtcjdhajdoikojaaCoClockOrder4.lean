/- Part 4 of the proof of ClockOrder: what the functions compute. No condition. -/
import Derived.RangeFuncNested
import Derived.RangeFuncBound
import Derived.RangeFuncCalls
import Derived.RangeFuncLeaves
import Derived.Shelf.Abstract
import Derived.Shelf.RegionOpen
import Derived.WalkKit
import Derived.OwnWalkIn
import Derived.TacticsInMore
import Derived.LoopNIn
import Derived.LoopIn
import Derived.Lib.Hide
import Derived.OrdersIn
import Derived.Test.YtcjdhajdoikojaaCoClockOrder3
set_option linter.unusedVariables false
set_option linter.unusedSimpArgs false
section
/- The library's iterator slices.Values over spans and over anchors: all elements come in order, or a first part of them. The slice has at most 1,000 elements. -/
namespace Go.Proofs.Ytcjdhajdoikojaa.Clk
open Go.RowKit Go.Shelf Go.Proofs.YtcjdhajdoikojaaW.PrintWords Go.Proofs.YtcjdhajdoikojaaW.PrintLast Go.Proofs.YtcjdhajdoikojaaW.PrintMore Go.Proofs.Ytcjdhajdoikojaa.Pr
set_option linter.unusedVariables false
set_option linter.unusedSimpArgs false
attribute [local go_sem] Oper.semAt_some
abbrev enc35 (x : S35) : Value := .agg #[.int .i64 x.f0, .int .i64 x.f1]
abbrev enc105 (x : S105) : Value := .agg #[.int .i64 x.f0.f0, .int .i64 x.f0.f1, .int .i64 x.f1]

set_option maxRecDepth 100000 in
set_option maxHeartbeats 2000000 in
theorem values35_in (n : Nat) (hn : 1 ≤ n) (l Bs : Nat) (w0 : World) (A : Option Addr) (c : Nat) (xs : List S35) (hl : xs.length ≤ 1000) (hC : Kd.C k35 w0 A xs.length xs) (J Jx : List S35 → World → Prop)
  (hY : ∀ pre x W, J pre W → pre.length < xs.length → YieldAt Fence.wide (n - 1) Try.prog l #[enc35 x] W fun e W' =>
   (e = .returned (.bool true) ∧ J (pre ++ [x]) W' ∧ Below w0.heap.size W W') ∨ (e = .returned (.bool false) ∧ Jx (pre ++ [x]) W'))
  (hJ : ∀ s W o, J s W → J s (W.alloc o))
  (W : World) (hb : Below w0.heap.size w0 W) (hBs : W.cell? ⟨Bs, 0, none⟩ = some (.slice A xs.length c)) (h0 : J [] W) :
  CallsIn Fence.wide n Try.prog 101 #[.func (.yield l) #[] #[], .pointer (some ⟨Bs, 0, none⟩)] W fun e W' => (∃ v, e = .returned v) ∧
   ((∃ ys, ys = xs ∧ J ys W') ∨ (∃ pre, pre <+: xs ∧ Jx pre W')) := by
 have hu35 := Try.underlying35
 refine callsIn_of_wp Try.func101 rfl trivial ?_ rfl
 simp only [Try.ntmps101, List.size_toArray, List.length_cons, List.length_nil, Nat.reduceAdd, Nat.reduceSub, Array.replicate_succ, Array.replicate_zero, List.push_toArray, List.append_toArray, List.nil_append, List.cons_append]
 gi_wp2
 gi_loopw [7] (fun i wr => ∃ k : Nat, k ≤ xs.length ∧ i = .int .i64 k ∧ J (xs.take k) wr ∧ Below w0.heap.size w0 wr)
  (fun i _ => xs.length - (intOf i).toNat)
 case atStart => exact ⟨0, Nat.zero_le _, rfl, by simpa using h0, hb⟩
 case round =>
  obtain ⟨k, hk, rfl, hJs, hnx⟩ := hrel
  by_cases hlt : k < xs.length
  ·obtain ⟨ad, rfl, hx0, hx1⟩ := at_T35 hC k (by omega) (by omega)
   have hx0' := (hnx.cell (World.block_lt_of_cell? w0 _ hx0)).trans hx0
   have hx1' := (hnx.cell (World.block_lt_of_cell? w0 _ hx1)).trans hx1
   clear hx0 hx1
   simp only [Int.toNat_natCast] at hx0' hx1'
   have hJa : J (xs.take k) (wr.alloc (.cells #[.int .i64 (rd_T35 xs (k : Int)).f0, .int .i64 (rd_T35 xs (k : Int)).f1] 35)) := hJ _ _ _ hJs
   obtain ⟨fn, tmps, assign, body, hy, hR⟩ := hY _ (rd_T35 xs (k : Int)) _ hJa (by simp; omega)
   dsimp only [enc35] at hy
   have hlk : xs[k]? = some (rd_T35 xs (k : Int)) := by simp [rd_T35, List.getD_eq_getElem?_getD, hlt]
   have htk : xs.take (k + 1) = xs.take k ++ [rd_T35 xs (k : Int)] := by rw [List.take_add_one, hlk]; rfl
   have HT := Lib.hid htk; clear htk hlk
   gi_wp2
   refine hR.mono ?_
   rintro e W3 (⟨rfl, hJ3, hk3⟩ | ⟨rfl, hJx3⟩)
   ·gi_wp2
    go_roundw
    case rel => exact ⟨k + 1, by omega, by simp, by rw [HT.out]; exact hJ3, (hnx.alloc hnx.size _).trans hk3⟩
    case measure => simp [intOf]; omega
   ·gi_wp2
    refine bodyPost_ret (results_none rfl _ _ _) rfl ?_
    exact ⟨⟨_, rfl⟩, .inr ⟨_, by rw [← HT.out]; exact List.take_prefix _ _, hJx3⟩⟩
  ·obtain rfl : k = xs.length := by omega
   gi_wp2
   go_end0
   exact ⟨⟨_, rfl⟩, .inl ⟨_, rfl, by simpa using hJs⟩⟩

theorem values35_stops (n : Nat) (hn : 1 ≤ n) (Bs : Nat) (w0 w : World) (A : Option Addr) (c : Nat) (xs : List S35) (hl : xs.length ≤ 1000) (hC : Kd.C k35 w0 A xs.length xs) (hb : Below w0.heap.size w0 w) (hBs : Bs < w.heap.size)
  (hc : w.cell? ⟨Bs, 0, none⟩ = some (.slice A xs.length c)) :
  SeqStopsK Fence.wide n Try.prog 101 #[.pointer (some ⟨Bs, 0, none⟩)] (fun x : S35 => #[enc35 x]) (Below w0.heap.size) (fun ys => ys = xs) (fun pre => pre <+: xs) xs.length w := fun l J Jx W hW hJ _ hY h0 =>
 values35_in n hn l Bs w0 A c xs hl hC J Jx hY (fun s W' o h => hJ s W' _ none h (World.grownBy_alloc W' o none) (fun r e => by cases e)) W (hb.trans (hW.mono hb.size)) ((hW.cell (p := ⟨Bs, 0, none⟩) hBs).trans hc) h0

set_option maxHeartbeats 1000000 in
theorem values35_any (A : Option Addr) (len cap : Nat) (w : World) :
  Calls Try.prog 84 #[.slice A len cap] w fun e w' => e = .returned (.func (.func 101) #[] #[.pointer (some ⟨w.heap.size, 0, none⟩)]) ∧ w' = w.alloc (.cells #[.slice A len cap] 65) := by
 go_enter Try.func84, Try.ntmps84
 go_wp2
 go_ret
 exact ⟨rfl, rfl⟩
theorem values35_at (A : Option Addr) (len cap : Nat) (b : Nat) (w : World) (hb : w.heap.size = b) :
  Calls Try.prog 84 #[.slice A len cap] w fun e w' => e = .returned (.func (.func 101) #[] #[.pointer (some ⟨b, 0, none⟩)]) ∧ w' = w.alloc (.cells #[.slice A len cap] 65) := hb ▸ values35_any A len cap w

set_option maxRecDepth 100000 in
set_option maxHeartbeats 2000000 in
theorem values105_in (n : Nat) (hn : 1 ≤ n) (l Bs : Nat) (w0 : World) (A : Option Addr) (c : Nat) (xs : List S105) (hl : xs.length ≤ 1000) (hC : Kd.C k105 w0 A xs.length xs) (J Jx : List S105 → World → Prop)
  (hY : ∀ pre x W, J pre W → pre.length < xs.length → YieldAt Fence.wide (n - 1) Try.prog l #[enc105 x] W fun e W' =>
   (e = .returned (.bool true) ∧ J (pre ++ [x]) W' ∧ Below w0.heap.size W W') ∨ (e = .returned (.bool false) ∧ Jx (pre ++ [x]) W'))
  (hJ : ∀ s W o, J s W → J s (W.alloc o))
  (W : World) (hb : Below w0.heap.size w0 W) (hBs : W.cell? ⟨Bs, 0, none⟩ = some (.slice A xs.length c)) (h0 : J [] W) :
  CallsIn Fence.wide n Try.prog 102 #[.func (.yield l) #[] #[], .pointer (some ⟨Bs, 0, none⟩)] W fun e W' => (∃ v, e = .returned v) ∧
   ((∃ ys, ys = xs ∧ J ys W') ∨ (∃ pre, pre <+: xs ∧ Jx pre W')) := by
 have hu105 := Try.underlying105
 refine callsIn_of_wp Try.func102 rfl trivial ?_ rfl
 simp only [Try.ntmps102, List.size_toArray, List.length_cons, List.length_nil, Nat.reduceAdd, Nat.reduceSub, Array.replicate_succ, Array.replicate_zero, List.push_toArray, List.append_toArray, List.nil_append, List.cons_append]
 gi_wp2
 gi_loopw [7] (fun i wr => ∃ k : Nat, k ≤ xs.length ∧ i = .int .i64 k ∧ J (xs.take k) wr ∧ Below w0.heap.size w0 wr)
  (fun i _ => xs.length - (intOf i).toNat)
 case atStart => exact ⟨0, Nat.zero_le _, rfl, by simpa using h0, hb⟩
 case round =>
  obtain ⟨k, hk, rfl, hJs, hnx⟩ := hrel
  by_cases hlt : k < xs.length
  ·obtain ⟨ad, rfl, hx0, hx1, hx2⟩ := at_T105 hC k (by omega) (by omega)
   have hx0' := (hnx.cell (World.block_lt_of_cell? w0 _ hx0)).trans hx0
   have hx1' := (hnx.cell (World.block_lt_of_cell? w0 _ hx1)).trans hx1
   have hx2' := (hnx.cell (World.block_lt_of_cell? w0 _ hx2)).trans hx2
   clear hx0 hx1 hx2
   simp only [Int.toNat_natCast] at hx0' hx1' hx2'
   have hJa : J (xs.take k) (wr.alloc (.cells #[.int .i64 (rd_T105 xs (k : Int)).f0.f0, .int .i64 (rd_T105 xs (k : Int)).f0.f1, .int .i64 (rd_T105 xs (k : Int)).f1] 105)) := hJ _ _ _ hJs
   obtain ⟨fn, tmps, assign, body, hy, hR⟩ := hY _ (rd_T105 xs (k : Int)) _ hJa (by simp; omega)
   dsimp only [enc105] at hy
   have hlk : xs[k]? = some (rd_T105 xs (k : Int)) := by simp [rd_T105, List.getD_eq_getElem?_getD, hlt]
   have htk : xs.take (k + 1) = xs.take k ++ [rd_T105 xs (k : Int)] := by rw [List.take_add_one, hlk]; rfl
   have HT := Lib.hid htk; clear htk hlk
   gi_wp2
   refine hR.mono ?_
   rintro e W3 (⟨rfl, hJ3, hk3⟩ | ⟨rfl, hJx3⟩)
   ·gi_wp2
    go_roundw
    case rel => exact ⟨k + 1, by omega, by simp, by rw [HT.out]; exact hJ3, (hnx.alloc hnx.size _).trans hk3⟩
    case measure => simp [intOf]; omega
   ·gi_wp2
    refine bodyPost_ret (results_none rfl _ _ _) rfl ?_
    exact ⟨⟨_, rfl⟩, .inr ⟨_, by rw [← HT.out]; exact List.take_prefix _ _, hJx3⟩⟩
  ·obtain rfl : k = xs.length := by omega
   gi_wp2
   go_end0
   exact ⟨⟨_, rfl⟩, .inl ⟨_, rfl, by simpa using hJs⟩⟩

theorem values105_stops (n : Nat) (hn : 1 ≤ n) (Bs : Nat) (w0 w : World) (A : Option Addr) (c : Nat) (xs : List S105) (hl : xs.length ≤ 1000) (hC : Kd.C k105 w0 A xs.length xs) (hb : Below w0.heap.size w0 w) (hBs : Bs < w.heap.size)
  (hc : w.cell? ⟨Bs, 0, none⟩ = some (.slice A xs.length c)) :
  SeqStopsK Fence.wide n Try.prog 102 #[.pointer (some ⟨Bs, 0, none⟩)] (fun x : S105 => #[enc105 x]) (Below w0.heap.size) (fun ys => ys = xs) (fun pre => pre <+: xs) xs.length w := fun l J Jx W hW hJ _ hY h0 =>
 values105_in n hn l Bs w0 A c xs hl hC J Jx hY (fun s W' o h => hJ s W' _ none h (World.grownBy_alloc W' o none) (fun r e => by cases e)) W (hb.trans (hW.mono hb.size)) ((hW.cell (p := ⟨Bs, 0, none⟩) hBs).trans hc) h0

set_option maxHeartbeats 1000000 in
theorem values105_any (A : Option Addr) (len cap : Nat) (w : World) :
  Calls Try.prog 88 #[.slice A len cap] w fun e w' => e = .returned (.func (.func 102) #[] #[.pointer (some ⟨w.heap.size, 0, none⟩)]) ∧ w' = w.alloc (.cells #[.slice A len cap] 107) := by
 go_enter Try.func88, Try.ntmps88
 go_wp2
 go_ret
 exact ⟨rfl, rfl⟩
end Go.Proofs.Ytcjdhajdoikojaa.Clk
end
section
/- A region that draws its order, in a round of a loop over a function: it is walked as anywhere else (no operation of it is a deferred call). -/
namespace Go.Proofs.YtcjdhajdoikojaaW.Round
open Go.RowKit Go.Proofs.YtcjdhajdoikojaaW.PrintWords Go.Proofs.YtcjdhajdoikojaaW.PrintLast
section
variable {P : Program} {n l : Nat}

theorem oper_round {o : Oper} {a : Act} {w : World} {K : Act → World → Prop} {Q : Exit → Act → World → Prop} (hd : ∀ c, o.op ≠ .defer c) (h : o.wp P a w K Q) : o.wpIn (Fence.wide.inRound l) n P a w K Q := by
 refine ⟨fun _ _ => trivial, ?_⟩
 rw [Oper.semAt_eq _ _ _ hd]
 unfold Oper.wp at h
 generalize (execOp a.eval o).run P w = r at h
 cases r with
 | ok x w' =>
  cases x with
  | value v => exact h
  | skip => exact h
  | defer d => exact h
  | enter f args => exact ⟨fun h0 => (by cases h0), CallsIn.inRound l (callsIn_wide.2 h)⟩
  | row row args => exact ⟨fun h0 => (by cases h0), fun c cs _ => by obtain ⟨v, w2, r, s⟩ := h c cs; exact ⟨v, w2, r, stepsIn_wide.2 s⟩⟩
  | _ => exact h.elim
 | halt x w' =>
  cases x with
  | panic v => exact h
  | _ => exact h.elim

/-- No operation is a deferred call. -/
def noDefer (ops : Array Oper) : Bool := ops.all fun o => match o.op with | .defer _ => false | _ => true
theorem noDefer_get {ops : Array Oper} (h : noDefer ops = true) {i : Nat} {o : Oper} (ho : ops[i]? = some o) : ∀ c, o.op ≠ .defer c := by
 intro c e
 unfold noDefer at h
 rw [Array.all_eq_true] at h
 obtain ⟨hi, he⟩ := Array.getElem?_eq_some_iff.1 ho
 have := h i hi
 rw [he, e] at this
 simp at this
theorem wpAny_round {ops : Array Oper} {Q : Exit → Act → World → Prop} {md : Region.Mode} (hn : noDefer ops = true) (hQ : ¬ LetsOut Q) : ∀ (fuel : Nat) (listed : Array Bool) (a : Act) (w : World),
  wpAny P md ops Q fuel listed a w → wpAnyIn (Fence.wide.inRound l) n P md ops Q fuel listed a w
 | 0, _, _, _, h => h
 | fuel + 1, listed, a, w, h => by
  refine ⟨h.1, fun i hi => ?_⟩
  have h1 := h.2 i hi
  unfold wpOp at h1
  unfold wpOpIn
  cases ho : ops[i]? with
  | none =>
   rw [ho] at h1
   exact wpAny_round hn hQ fuel _ _ _ h1
  | some o =>
   rw [ho] at h1
   dsimp only at h1 ⊢
   split at h1
   ·rename_i hw
    rw [if_pos hw]
    rcases h1 with h1 | ⟨_, h1⟩
    ·exact Oper.wpIn_mono (fun a w h => wpAny_round hn hQ fuel _ a w h) (oper_round (noDefer_get hn ho) h1)
    ·exact absurd h1 hQ
   ·rename_i hw
    rw [if_neg hw]
    exact ⟨fun _ _ => trivial, wpAny_round hn hQ fuel _ _ _ h1⟩
theorem letsOut_ownG {α : Type} {B : Nat} {Kp : World → World → Prop} {I : List α → World → Prop} {Ix : Code → List α → World → Prop} {xs : List α} {W : World} : ¬ LetsOut (ownPostG B Kp I Ix xs W) := fun ⟨_, _, h⟩ => h
theorem letsOut_inBlock {id : Nat} {Q : Exit → Act → World → Prop} (h : ¬ LetsOut Q) : ¬ LetsOut (Exit.inBlock id Q) := fun ⟨a, w, h1⟩ => h ⟨a, w, h1⟩
/-- The head of such a region's walk, in a round. -/
theorem startIn_ {ops : Array Oper} {Q : Exit → Act → World → Prop} {S : World → Prop} {ds : List Nat} {id m : Nat} {a : Act} {w : World} (lit : Array Bool) (hd : noDefer ops = true) (hQ : ¬ LetsOut Q) (hm : P.follows .mixedOrders = true) (hn : ops.size = m) (hl : Array.replicate m false = lit) (hS : S w.drew)
  (h : S w.drew → wpAnyLast P .any ops Q S ds m lit a w.drew) : (Code.region id ops true).wpIn (Fence.wide.inRound l) n P Q a w := by
 subst hn
 subst hl
 exact wpIn_region_any hm (wpAny_round hd hQ _ _ _ _ (wpAny_of_last _ _ _ _ (h hS)))
/-- A post that speaks of the normal way out alone. -/
def onlyN (K : Act → World → Prop) : Exit → Act → World → Prop
 | .normal, a, w => K a w
 | _, _, _ => False
theorem onlyN_normal {Q : Exit → Act → World → Prop} {a : Act} {w : World} (h : Q .normal a w) : onlyN (Q .normal) .normal a w := h
theorem wpIn_only {F : Fence} {c : Code} {Q : Exit → Act → World → Prop} {a : Act} {w : World} (h : c.wpIn F n P (onlyN (Q .normal)) a w) : c.wpIn F n P Q a w := wpIn_mono h (fun e a w h => by cases e <;> first | exact h | exact h.elim)
end
end Go.Proofs.YtcjdhajdoikojaaW.Round
end
section
/- The common part of spans, as the program computes it over an iterator: the greatest of the lower ends, the least of the upper ones. -/
namespace Go.Proofs.Ytcjdhajdoikojaa.Clk
open Go.RowKit Go.Shelf Go.Proofs.YtcjdhajdoikojaaW.PrintWords Go.Proofs.YtcjdhajdoikojaaW.PrintLast Go.Proofs.YtcjdhajdoikojaaW.PrintMore Go.Proofs.Ytcjdhajdoikojaa.Pr Go.Proofs.YtcjdhajdoikojaaW.Round
set_option linter.unusedVariables false
set_option linter.unusedSimpArgs false
attribute [local go_sem] Oper.semAt_some
attribute [local go_sem] max2_int min2_int max_two min_two
/-- A block of memory, whole. -/
def Blk (W : World) (b : Nat) (c : Array Value) (t : TypeId) : Prop := W.heap[b]? = some (.cells c t (0, 0))
def meetF (l : List S35) : Int × Int := l.foldl (fun o a => (mx o.1 a.f0, mn o.2 a.f1)) (-9223372036854775808, 9223372036854775807)
theorem blk_grown {B b : Nat} {c : Array Value} {t : TypeId} {X Y : World} {row : Option Nat} (hs : Blk X b c t) (hg : X.grownBy Y row) (hr : ∀ r, row = some r → B ≤ r ∧ ∃ o : Obj, X.heap[r]? = some o ∧ o.isCells = false) : Blk Y b c t :=
 (hg.block b (Array.getElem?_eq_some_iff.1 hs).1 (fun e => by obtain ⟨_, o, ho, hc⟩ := hr b e.symm; rw [show X.heap[b]? = _ from hs] at ho; cases ho; cases hc)).trans hs
theorem Blk.below {W W1 : World} {b : Nat} {c : Array Value} {t : TypeId} (h : Blk W b c t) (hb : Below W.heap.size W W1) : Blk W1 b c t := (hb.block b (Array.getElem?_eq_some_iff.1 h).1).trans h
theorem keepsFrom_below {B : Nat} {W W1 : World} (hb : Below W.heap.size W W1) : KeepsFrom B W W1 :=
 ⟨hb.size, fun k o _ h0 _ => (hb.block k (Array.getElem?_eq_some_iff.1 h0).1).trans h0⟩
theorem keepsFrom_set2 (B : Nat) (W : World) (g i j : Nat) (u v : Value) : KeepsFrom B W ((W.setCell ⟨g, i, none⟩ u).setCell ⟨g, j, none⟩ v) := (KeepsOthers.trans (KeepsOthers.setCell _ _ _) (KeepsOthers.setCell _ _ _)).from _
theorem blk_ownFrom {β : Type} (B b : Nat) (f : β → Array Value) (t : TypeId) : OwnFrom B (fun s W => Blk W b (f s) t) := fun s X Y row hs hg hr => blk_grown hs hg hr
theorem blk_new3 (w : World) (o0 o1 o2 : Obj) : (((w.alloc o0).alloc o1).alloc o2).heap[w.heap.size]? = some o0 ∧ (((w.alloc o0).alloc o1).alloc o2).heap[w.heap.size + 1]? = some o1 ∧ (((w.alloc o0).alloc o1).alloc o2).heap[w.heap.size + 1 + 1]? = some o2 := by
 have h1 := World.alloc_heap_new (w.alloc o0) o1
 have h2 := World.alloc_heap_new ((w.alloc o0).alloc o1) o2
 rw [World.size_alloc] at h1 h2
 rw [World.size_alloc] at h2
 refine ⟨(Below.heap_alloc _ _ _ (by simp; omega)).trans ((Below.heap_alloc _ _ _ (by simp)).trans (World.alloc_heap_new w o0)), (Below.heap_alloc _ _ _ (by simp)).trans h1, h2⟩
theorem meetF_snoc (l : List S35) (a : S35) : meetF (l ++ [a]) = (mx (meetF l).1 a.f0, mn (meetF l).2 a.f1) := by simp [meetF]

set_option maxRecDepth 100000 in
set_option maxHeartbeats 4000000 in
theorem meet35_any (gf gs : Nat) (lb lbs : Array Value) (w : World) (xs : List S35) (g : S35 → S35)
  (egf : ∀ args w, (callFunc gf args).run Try.prog w = .ok (.enter gf args) w) (egs : ∀ args w, (callFunc gs args).run Try.prog w = .ok (.enter gs args) w)
  (hseq : ∀ W, Below w.heap.size w W → SeqStopsK Fence.wide 5 Try.prog gf lb (fun x : S35 => #[enc35 x]) (Below w.heap.size) (fun ys => ys = xs) (fun pre => pre <+: xs) xs.length W)
  (hspan : ∀ x W, Below w.heap.size w W → Calls Try.prog gs (#[enc35 x] ++ lbs) W fun e W' => e = .returned (enc35 (g x)) ∧ Below W.heap.size W W') :
  Calls Try.prog 83 #[.func (.func gf) #[] lb, .func (.func gs) #[] lbs] w fun e w' => e = .returned (.tuple #[.agg #[.int .i64 (meetF (xs.map g)).1, .int .i64 (meetF (xs.map g)).2], .bool (decide ((meetF (xs.map g)).1 ≤ (meetF (xs.map g)).2))]) ∧ Below w.heap.size w w' := by
 have hu35 := Try.underlying35
 have hu35 := Try.underlying35
 refine (callsIn_wide (n := 6)).1 ?_
 refine callsIn_of_wp_marks Try.func83 rfl trivial ?_ rfl
 simp only [Try.ntmps83, List.size_toArray, List.length_cons, List.length_nil, Nat.reduceAdd, Nat.reduceSub, Array.replicate_succ, Array.replicate_zero, List.push_toArray, List.append_toArray, List.nil_append, List.cons_append]
 gi_wp2
 have hB0 : Below w.heap.size w (((w.alloc (.cells #[.func (.func gs) #[] lbs] 135)).alloc (.cells #[.int .i64 0, .int .i64 0] 35)).alloc (.cells #[.int .i64 (-9223372036854775808), .int .i64 9223372036854775807] 35)) := (((Below.refl _ w).alloc (Nat.le_refl _) _).alloc (by simp) _).alloc (by simp; omega) _
 have hK0 := blk_new3 w (.cells #[.func (.func gs) #[] lbs] 135) (.cells #[.int .i64 0, .int .i64 0] 35) (.cells #[.int .i64 (-9223372036854775808), .int .i64 9223372036854775807] 35)
 obtain ⟨W0, hW0⟩ : ∃ W0, (((w.alloc (.cells #[.func (.func gs) #[] lbs] 135)).alloc (.cells #[.int .i64 0, .int .i64 0] 35)).alloc (.cells #[.int .i64 (-9223372036854775808), .int .i64 9223372036854775807] 35)) = W0 := ⟨_, rfl⟩
 have hsz : W0.heap.size = w.heap.size + 3 := by rw [← hW0]; simp
 rw [hW0] at hB0 hK0 ⊢
 refine wpIn_rangeFunc_ownH rfl (by omega) (gf := gf) (lb := lb) rfl trivial egf
  (hseq W0 hB0) belowK_t (belowK_b (by omega)) (Below.refl _ _) (fun _ => rfl)
  (fun pre W => Blk W (w.heap.size + 1 + 1) #[.int .i64 (meetF (pre.map g)).1, .int .i64 (meetF (pre.map g)).2] 35 ∧ Blk W w.heap.size #[.func (.func gs) #[] lbs] 135 ∧ Blk W (w.heap.size + 1) #[.int .i64 0, .int .i64 0] 35 ∧ Below w.heap.size w W)
  (fun _ _ _ => False)
  (OwnFrom.and (blk_ownFrom _ _ (fun pre : List S35 => #[.int .i64 (meetF (pre.map g)).1, .int .i64 (meetF (pre.map g)).2]) _) (OwnFrom.and (blk_ownFrom _ _ (fun _ => _) _) (OwnFrom.and (blk_ownFrom _ _ (fun _ => _) _) (ownFrom_below (by omega) (by omega)))))
  (fun _ _ _ _ _ hs _ _ => hs)
  ⟨hK0.2.2, hK0.1, hK0.2.1, hB0⟩
  (fun x a' W => ∃ Bx, w.heap.size + 3 ≤ Bx ∧ Blk W Bx #[.int .i64 x.f0, .int .i64 x.f1] 35 ∧ a' = { tmps := #[.func (.func gf) #[] lb, .func (.func gs) #[] lbs, undef, .pointer (some ⟨w.heap.size, 0, none⟩), .pointer (some ⟨w.heap.size + 1, 0, none⟩), .bool false, .pointer (some ⟨w.heap.size + 1 + 1, 0, none⟩), .pointer (some ⟨Bx, 0, none⟩), undef, .agg #[.int .i64 (-9223372036854775808), .int .i64 9223372036854775807], .func (.func gf) #[] lb, enc35 x, undef, undef, undef, undef, undef, undef, undef, undef, undef, undef, undef, undef, undef, undef, undef, undef, undef, undef, undef, undef, undef], defers := [] })
  (fun x a' s X Y row hs hg hr => by
   obtain ⟨Bx, h1, h2, h3⟩ := hs
   exact ⟨Bx, h1, blk_grown h2 hg hr, h3⟩) ?assign ?body ?done ?stop
 case assign =>
  rintro l pre x W K ⟨h1, h2, h3, h4⟩ hK
  gi_wp2
  exact hK _ _ ((KeepsOthers.alloc _ _).from _) ((Below.refl _ W).alloc h4.size _) ⟨blk_alloc h1 _, blk_alloc h2 _, blk_alloc h3 _, h4.alloc h4.size _⟩ ⟨W.heap.size, by have := (Array.getElem?_eq_some_iff.1 h1).1; omega, World.alloc_heap_new W _, rfl⟩
 case body =>
  rintro l pre x a' W hl ⟨r, hr⟩ ⟨h1, h2, h3, h4⟩ ⟨Bx, hBx, hX, rfl⟩ hlen
  have c0 := blk_cell h2 0
  have c1 := blk_cell hX 0
  have c2 := blk_cell hX 1
  have c2' := blk_cell hX 2
  simp at c0 c1 c2 c2'
  have hd : 1 ≤ 6 - 1 - 1 := by omega
  have hmx : Try.prog.follows .mixedOrders = true := by kernel_rfl
  gi_wp2_with fail
  refine ⟨trivial, (CallsIn.inRound l (callsIn_wide.2 (hspan x W h4))).mono ?_⟩
  rintro e W1 ⟨rfl, hb1⟩
  have k1 := h1.below hb1
  have k2 := h2.below hb1
  have k3 := h3.below hb1
  have hB1 := h4.trans (hb1.mono h4.size)
  have hkf : KeepsFrom W0.heap.size W W1 := keepsFrom_below hb1
  have c3 : ∀ o, (W1.alloc o).cell? ⟨w.heap.size + 1 + 1, 0, none⟩ = some (.int .i64 (meetF (pre.map g)).1) := fun o => (blk_cell (blk_alloc k1 o) 0).trans rfl
  have c4 : ∀ o, (W1.alloc o).cell? ⟨w.heap.size + 1 + 1, 1, none⟩ = some (.int .i64 (meetF (pre.map g)).2) := fun o => (blk_cell (blk_alloc k1 o) 1).trans rfl
  have hne : w.heap.size + 1 + 1 ≠ W1.heap.size := by have := (Array.getElem?_eq_some_iff.1 k1).1; omega
  clear hX c0 c1 c2 c2'
  dsimp only [enc35]
  generalize hP : (meetF (pre.map g)).1 = P1 at c3 c4 k1 ⊢
  generalize hQ : (meetF (pre.map g)).2 = P2 at c3 c4 k1 ⊢
  generalize hg0 : (g x).f0 = G0
  generalize hg1 : (g x).f1 = G1
  have HP := Lib.hid hP
  have HQ := Lib.hid hQ
  have HG0 := Lib.hid hg0
  have HG1 := Lib.hid hg1
  clear hP hQ hg0 hg1
  gi_wp2_with fail
  have m1 := blk_alloc k1 (.cells #[.int .i64 G0, .int .i64 G1] 35)
  have m2 := blk_alloc k2 (.cells #[.int .i64 G0, .int .i64 G1] 35)
  have m3 := blk_alloc k3 (.cells #[.int .i64 G0, .int .i64 G1] 35)
  have m4 : (W1.alloc (.cells #[.int .i64 G0, .int .i64 G1] 35)).heap[W1.heap.size]? = some (.cells #[.int .i64 G0, .int .i64 G1] 35 (0, 0)) := World.alloc_heap_new W1 _
  have mB := hB1.alloc hB1.size (.cells #[.int .i64 G0, .int .i64 G1] 35)
  have hbW : Below w.heap.size W (W1.alloc (.cells #[.int .i64 G0, .int .i64 G1] 35)) := (hb1.mono h4.size).alloc hB1.size _
  have mk : KeepsFrom W0.heap.size W (W1.alloc (.cells #[.int .i64 G0, .int .i64 G1] 35)) := hkf.trans ((KeepsOthers.alloc _ _).from _)
  clear c3 c4
  generalize hNN : W1.heap.size = NN at m4 hne ⊢
  generalize hW2 : W1.alloc (.cells #[.int .i64 G0, .int .i64 G1] 35) = W2 at m1 m2 m3 m4 mB mk hbW ⊢
  clear hW2
  have mG : w.heap.size ≤ w.heap.size + 1 + 1 := by omega
  have hbW : Below w.heap.size W W2.drew := below_drew1 hbW
  have mW : KeepsFrom W0.heap.size W W2.drew := mk.trans ((KeepsOthers.drew _).from _)
  replace m1 := blk_drew m1
  replace m2 := blk_drew m2
  replace m3 := blk_drew m3
  replace m4 := blk_drew m4
  replace mB := below_drew1 mB
  refine startIn_ (m := 14) (S := fun w' => w'.cell? ⟨w.heap.size + 1 + 1, 1, none⟩ = some (.int .i64 P2) ∧ w'.cell? ⟨NN, 0, none⟩ = some (.int .i64 G0) ∧ w'.cell? ⟨NN, 1, none⟩ = some (.int .i64 G1)) (ds := [13]) #[false, false, false, false, false, false, false, false, false, false, false, false, false, false] zq1 (letsOut_inBlock letsOut_ownG) zq1 rfl rfl ⟨((blk_cell m1 1).trans rfl), ((blk_cell m4 0).trans rfl), ((blk_cell m4 1).trans rfl)⟩ (fun hHeld => ?_)
  generalize W2.drew = Wd at *
  refine zpz (i := 0) (N := some 15) zq1 ?_
  refine zpz (i := 2) (N := some 17) zq1 ?_
  refine zpz (i := 5) (N := some 20) zq1 ?_
  refine zpz (i := 7) (N := some 22) zq1 ?_
  refine ztz (i := 3) (N := some 18) zq1 hHeld ?_
  refine ztz (i := 6) (N := some 21) zq1 hHeld ?_
  refine ztz (i := 8) (N := some 23) zq1 hHeld ?_
  refine zpz (i := 9) (N := some 24) zq1 ?_
  refine one_ (i := 1) (N := some 16) #[true, true, true, true, false, true, true, true, true, true, false, false, false, false] rfl rfl zq1 (by decide) (fun K hK => ?_)
  have hc1 := (blk_cell m1 0).trans rfl
  refine value_ (w1 := ?_) (v := ?_) (by rfl) rfl ?_ ?_
  rotate_left 2
  ·go_simp
   constructor
   ·rfl
   ·rfl
  refine hK.out _ _ ⟨hHeld.1, hHeld.2.1, hHeld.2.2⟩ (fun hHeld => ?_)
  clear hK K
  refine norm_ zq4 ?_
  refine zpz (i := 4) (N := some 19) zq1 ?_
  refine zpz (i := 10) (N := some 25) zq1 ?_
  refine one_ (i := 11) (N := none) #[true, true, true, true, true, true, true, true, true, true, true, true, false, false] rfl rfl zq1 (by decide) (fun K hK => ?_)
  have hf := blk_frozen m1 0
  have hc := (blk_cell m1 0).trans rfl
  refine skip_ (w1 := ?_) (by rfl) rfl ?_ ?_
  rotate_left
  ·go_simp
   rfl
  refine hK.out _ _ ⟨((blk_cell (blk_put m1 0 _ rfl) 1).trans rfl), ((cell_far (p := ⟨w.heap.size + 1 + 1, _, none⟩) hne.symm _).trans hHeld.2.1), ((cell_far (p := ⟨w.heap.size + 1 + 1, _, none⟩) hne.symm _).trans hHeld.2.2)⟩ (fun hHeld => ?_)
  clear hK K
  refine zpz (i := 12) (N := some 26) zq1 ?_
  refine last_ (i := 13) (N := none) #[true, true, true, true, true, true, true, true, true, true, true, true, true, true] rfl rfl zq1 (by decide) (fun K hK => ?_)
  have hf2 := blk_frozen m1 1
  have hc2 := hHeld.1
  refine skip_ (w1 := ?_) (by rfl) rfl ?_ ?_
  rotate_left
  ·go_simp
   rfl
  refine hK.out _ _ ?_
  clear hK K
  refine done_ zq1 ?_
  have z0 : Blk (Wd.setCell ⟨w.heap.size + 1 + 1, 0, none⟩ (.int .i64 (if P1 < G0 then G0 else P1))) (w.heap.size + 1 + 1) #[.int .i64 (if P1 < G0 then G0 else P1), .int .i64 P2] 35 := blk_put m1 0 _ rfl
  have z1 : Blk ((Wd.setCell ⟨w.heap.size + 1 + 1, 0, none⟩ (.int .i64 (if P1 < G0 then G0 else P1))).setCell ⟨w.heap.size + 1 + 1, 1, none⟩ (.int .i64 (if G1 < P2 then G1 else P2))) (w.heap.size + 1 + 1) #[.int .i64 (if P1 < G0 then G0 else P1), .int .i64 (if G1 < P2 then G1 else P2)] 35 := blk_put z0 1 _ rfl
  exact ⟨mW.trans (keepsFrom_set2 _ _ _ _ _ _ _), hbW.trans (((Below.refl _ Wd).setCell mG _).setCell mG _), zq5, blk_far (blk_far m2 zq6 _) zq6 _, blk_far (blk_far m3 zq7 _) zq7 _, (mB.setCell mG _).setCell mG _⟩
 case done =>
  rintro D ys W hD rfl ⟨h1, h2, h3, h4⟩ hK
  obtain ⟨P1, P2, hR⟩ : ∃ P1 P2, meetF (ys.map g) = (P1, P2) := ⟨_, _, rfl⟩
  rw [hR] at h1
  dsimp only at h1
  have HR := Lib.hid hR
  clear hR
  gi_wp2_with fail
  refine wpIn_only (wpIn_wide.2 ?_)
  replace h1 := blk_drew h1
  replace h3 := blk_drew h3
  replace h4 := below_drew1 h4
  replace hK := blk_drew hK
  refine start_ (n := 8) (S := fun w' => w'.cell? ⟨w.heap.size + 1 + 1, 0, none⟩ = some (.int .i64 P1) ∧ w'.cell? ⟨w.heap.size + 1 + 1, 1, none⟩ = some (.int .i64 P2)) (ds := []) #[false, false, false, false, false, false, false, false] zq1 rfl rfl ⟨((blk_cell h1 0).trans rfl), ((blk_cell h1 1).trans rfl)⟩ (fun hHeld => ?_)
  generalize W.drew = Wd at *
  refine zpz (i := 1) (N := some 28) zq1 ?_
  refine zpz (i := 3) (N := some 30) zq1 ?_
  refine ztz (i := 0) (N := some 27) zq1 hHeld ?_
  refine ztz (i := 2) (N := some 29) zq1 hHeld ?_
  refine ztz (i := 4) (N := some 31) zq1 hHeld ?_
  refine zpz (i := 5) (N := some 32) zq1 ?_
  refine one_ (i := 6) (N := none) #[true, true, true, true, true, true, true, false] rfl rfl zq1 (by decide) (fun K hK => ?_)
  have hf0 := blk_frozen h3 0
  have hf1 := blk_frozen h3 1
  have hc0 := (blk_cell h3 0).trans rfl
  have hc1 := (blk_cell h3 1).trans rfl
  refine skip_ (w1 := ?_) (by rfl) rfl ?_ ?_
  rotate_left
  ·go_simp
   rfl
  refine hK.out _ _ ⟨((cell_far (p := ⟨w.heap.size + 1, _, none⟩) zq8 _).trans ((cell_far (p := ⟨w.heap.size + 1, _, none⟩) zq8 _).trans hHeld.1)), ((cell_far (p := ⟨w.heap.size + 1, _, none⟩) zq8 _).trans ((cell_far (p := ⟨w.heap.size + 1, _, none⟩) zq8 _).trans hHeld.2))⟩ (fun hHeld => ?_)
  clear hK K
  refine zpz (i := 7) (N := some 5) zq1 ?_
  refine done_ zq1 ?_
  have n3 : Blk ((Wd.setCell ⟨w.heap.size + 1, 0, none⟩ (.int .i64 P1)).setCell ⟨w.heap.size + 1, 1, none⟩ (.int .i64 P2)) (w.heap.size + 1) #[.int .i64 P1, .int .i64 P2] 35 := blk_put (blk_put h3 0 _ rfl) 1 _ rfl
  have hK1 : ((Wd.setCell ⟨w.heap.size + 1, 0, none⟩ (.int .i64 P1)).setCell ⟨w.heap.size + 1, 1, none⟩ (.int .i64 P2)).heap[D]? = some (.deferred (some [])) :=
   (Below.heap_setCell _ _ _ D (by show D ≠ w.heap.size + 1; omega)).trans ((Below.heap_setCell _ _ _ D (by show D ≠ w.heap.size + 1; omega)).trans hK)
  have hB2 : Below w.heap.size w ((Wd.setCell ⟨w.heap.size + 1, 0, none⟩ (.int .i64 P1)).setCell ⟨w.heap.size + 1, 1, none⟩ (.int .i64 P2)) := (h4.setCell (p := ⟨w.heap.size + 1, 0, none⟩) zq9 _).setCell (p := ⟨w.heap.size + 1, 1, none⟩) zq9 _
  refine onlyN_normal ?_
  gi_wp2
  refine ⟨by simp, .inl ⟨_, _, rfl, run_takeDeferred hK1, ?_⟩⟩
  refine ⟨_, results_ct rfl _ _ (w.heap.size + 1) 35 #[.int .i64 P1, .int .i64 P2] (0, 0) _ rfl ((World.putObj_heap_other (by omega)).trans n3) Try.underlying35 rfl zq1, by rw [HR.out]; rfl, hB2.trans (belowK_b (w := w) (Nat.le_refl _) _ D _ _ (by omega) hK1 rfl rfl)⟩
 case stop =>
  rintro D c pre W hD _ h _
  exact h.elim

set_option maxRecDepth 100000 in
set_option maxHeartbeats 4000000 in
theorem meet105_any (gf gs : Nat) (lb lbs : Array Value) (w : World) (xs : List S105) (g : S105 → S35)
  (egf : ∀ args w, (callFunc gf args).run Try.prog w = .ok (.enter gf args) w) (egs : ∀ args w, (callFunc gs args).run Try.prog w = .ok (.enter gs args) w)
  (hseq : ∀ W, Below w.heap.size w W → SeqStopsK Fence.wide 5 Try.prog gf lb (fun x : S105 => #[enc105 x]) (Below w.heap.size) (fun ys => ys = xs) (fun pre => pre <+: xs) xs.length W)
  (hspan : ∀ x W, Below w.heap.size w W → Calls Try.prog gs (#[enc105 x] ++ lbs) W fun e W' => e = .returned (enc35 (g x)) ∧ Below W.heap.size W W') :
  Calls Try.prog 87 #[.func (.func gf) #[] lb, .func (.func gs) #[] lbs] w fun e w' => e = .returned (.tuple #[.agg #[.int .i64 (meetF (xs.map g)).1, .int .i64 (meetF (xs.map g)).2], .bool (decide ((meetF (xs.map g)).1 ≤ (meetF (xs.map g)).2))]) ∧ Below w.heap.size w w' := by
 have hu35 := Try.underlying35
 have hu105 := Try.underlying105
 refine (callsIn_wide (n := 6)).1 ?_
 refine callsIn_of_wp_marks Try.func87 rfl trivial ?_ rfl
 simp only [Try.ntmps87, List.size_toArray, List.length_cons, List.length_nil, Nat.reduceAdd, Nat.reduceSub, Array.replicate_succ, Array.replicate_zero, List.push_toArray, List.append_toArray, List.nil_append, List.cons_append]
 gi_wp2
 have hB0 : Below w.heap.size w (((w.alloc (.cells #[.func (.func gs) #[] lbs] 142)).alloc (.cells #[.int .i64 0, .int .i64 0] 35)).alloc (.cells #[.int .i64 (-9223372036854775808), .int .i64 9223372036854775807] 35)) := (((Below.refl _ w).alloc (Nat.le_refl _) _).alloc (by simp) _).alloc (by simp; omega) _
 have hK0 := blk_new3 w (.cells #[.func (.func gs) #[] lbs] 142) (.cells #[.int .i64 0, .int .i64 0] 35) (.cells #[.int .i64 (-9223372036854775808), .int .i64 9223372036854775807] 35)
 obtain ⟨W0, hW0⟩ : ∃ W0, (((w.alloc (.cells #[.func (.func gs) #[] lbs] 142)).alloc (.cells #[.int .i64 0, .int .i64 0] 35)).alloc (.cells #[.int .i64 (-9223372036854775808), .int .i64 9223372036854775807] 35)) = W0 := ⟨_, rfl⟩
 have hsz : W0.heap.size = w.heap.size + 3 := by rw [← hW0]; simp
 rw [hW0] at hB0 hK0 ⊢
 refine wpIn_rangeFunc_ownH rfl (by omega) (gf := gf) (lb := lb) rfl trivial egf
  (hseq W0 hB0) belowK_t (belowK_b (by omega)) (Below.refl _ _) (fun _ => rfl)
  (fun pre W => Blk W (w.heap.size + 1 + 1) #[.int .i64 (meetF (pre.map g)).1, .int .i64 (meetF (pre.map g)).2] 35 ∧ Blk W w.heap.size #[.func (.func gs) #[] lbs] 142 ∧ Blk W (w.heap.size + 1) #[.int .i64 0, .int .i64 0] 35 ∧ Below w.heap.size w W)
  (fun _ _ _ => False)
  (OwnFrom.and (blk_ownFrom _ _ (fun pre : List S105 => #[.int .i64 (meetF (pre.map g)).1, .int .i64 (meetF (pre.map g)).2]) _) (OwnFrom.and (blk_ownFrom _ _ (fun _ => _) _) (OwnFrom.and (blk_ownFrom _ _ (fun _ => _) _) (ownFrom_below (by omega) (by omega)))))
  (fun _ _ _ _ _ hs _ _ => hs)
  ⟨hK0.2.2, hK0.1, hK0.2.1, hB0⟩
  (fun x a' W => ∃ Bx, w.heap.size + 3 ≤ Bx ∧ Blk W Bx #[.int .i64 x.f0.f0, .int .i64 x.f0.f1, .int .i64 x.f1] 105 ∧ a' = { tmps := #[.func (.func gf) #[] lb, .func (.func gs) #[] lbs, undef, .pointer (some ⟨w.heap.size, 0, none⟩), .pointer (some ⟨w.heap.size + 1, 0, none⟩), .bool false, .pointer (some ⟨w.heap.size + 1 + 1, 0, none⟩), .pointer (some ⟨Bx, 0, none⟩), undef, .agg #[.int .i64 (-9223372036854775808), .int .i64 9223372036854775807], .func (.func gf) #[] lb, enc105 x, undef, undef, undef, undef, undef, undef, undef, undef, undef, undef, undef, undef, undef, undef, undef, undef, undef, undef, undef, undef, undef], defers := [] })
  (fun x a' s X Y row hs hg hr => by
   obtain ⟨Bx, h1, h2, h3⟩ := hs
   exact ⟨Bx, h1, blk_grown h2 hg hr, h3⟩) ?assign ?body ?done ?stop
 case assign =>
  rintro l pre x W K ⟨h1, h2, h3, h4⟩ hK
  gi_wp2
  exact hK _ _ ((KeepsOthers.alloc _ _).from _) ((Below.refl _ W).alloc h4.size _) ⟨blk_alloc h1 _, blk_alloc h2 _, blk_alloc h3 _, h4.alloc h4.size _⟩ ⟨W.heap.size, by have := (Array.getElem?_eq_some_iff.1 h1).1; omega, World.alloc_heap_new W _, rfl⟩
 case body =>
  rintro l pre x a' W hl ⟨r, hr⟩ ⟨h1, h2, h3, h4⟩ ⟨Bx, hBx, hX, rfl⟩ hlen
  have c0 := blk_cell h2 0
  have c1 := blk_cell hX 0
  have c2 := blk_cell hX 1
  have c2' := blk_cell hX 2
  simp at c0 c1 c2 c2'
  have hd : 1 ≤ 6 - 1 - 1 := by omega
  have hmx : Try.prog.follows .mixedOrders = true := by kernel_rfl
  gi_wp2_with fail
  refine ⟨trivial, (CallsIn.inRound l (callsIn_wide.2 (hspan x W h4))).mono ?_⟩
  rintro e W1 ⟨rfl, hb1⟩
  have k1 := h1.below hb1
  have k2 := h2.below hb1
  have k3 := h3.below hb1
  have hB1 := h4.trans (hb1.mono h4.size)
  have hkf : KeepsFrom W0.heap.size W W1 := keepsFrom_below hb1
  have c3 : ∀ o, (W1.alloc o).cell? ⟨w.heap.size + 1 + 1, 0, none⟩ = some (.int .i64 (meetF (pre.map g)).1) := fun o => (blk_cell (blk_alloc k1 o) 0).trans rfl
  have c4 : ∀ o, (W1.alloc o).cell? ⟨w.heap.size + 1 + 1, 1, none⟩ = some (.int .i64 (meetF (pre.map g)).2) := fun o => (blk_cell (blk_alloc k1 o) 1).trans rfl
  have hne : w.heap.size + 1 + 1 ≠ W1.heap.size := by have := (Array.getElem?_eq_some_iff.1 k1).1; omega
  clear hX c0 c1 c2 c2'
  dsimp only [enc35]
  generalize hP : (meetF (pre.map g)).1 = P1 at c3 c4 k1 ⊢
  generalize hQ : (meetF (pre.map g)).2 = P2 at c3 c4 k1 ⊢
  generalize hg0 : (g x).f0 = G0
  generalize hg1 : (g x).f1 = G1
  have HP := Lib.hid hP
  have HQ := Lib.hid hQ
  have HG0 := Lib.hid hg0
  have HG1 := Lib.hid hg1
  clear hP hQ hg0 hg1
  gi_wp2_with fail
  have m1 := blk_alloc k1 (.cells #[.int .i64 G0, .int .i64 G1] 35)
  have m2 := blk_alloc k2 (.cells #[.int .i64 G0, .int .i64 G1] 35)
  have m3 := blk_alloc k3 (.cells #[.int .i64 G0, .int .i64 G1] 35)
  have m4 : (W1.alloc (.cells #[.int .i64 G0, .int .i64 G1] 35)).heap[W1.heap.size]? = some (.cells #[.int .i64 G0, .int .i64 G1] 35 (0, 0)) := World.alloc_heap_new W1 _
  have mB := hB1.alloc hB1.size (.cells #[.int .i64 G0, .int .i64 G1] 35)
  have hbW : Below w.heap.size W (W1.alloc (.cells #[.int .i64 G0, .int .i64 G1] 35)) := (hb1.mono h4.size).alloc hB1.size _
  have mk : KeepsFrom W0.heap.size W (W1.alloc (.cells #[.int .i64 G0, .int .i64 G1] 35)) := hkf.trans ((KeepsOthers.alloc _ _).from _)
  clear c3 c4
  generalize hNN : W1.heap.size = NN at m4 hne ⊢
  generalize hW2 : W1.alloc (.cells #[.int .i64 G0, .int .i64 G1] 35) = W2 at m1 m2 m3 m4 mB mk hbW ⊢
  clear hW2
  have mG : w.heap.size ≤ w.heap.size + 1 + 1 := by omega
  have hbW : Below w.heap.size W W2.drew := below_drew1 hbW
  have mW : KeepsFrom W0.heap.size W W2.drew := mk.trans ((KeepsOthers.drew _).from _)
  replace m1 := blk_drew m1
  replace m2 := blk_drew m2
  replace m3 := blk_drew m3
  replace m4 := blk_drew m4
  replace mB := below_drew1 mB
  refine startIn_ (m := 14) (S := fun w' => w'.cell? ⟨w.heap.size + 1 + 1, 1, none⟩ = some (.int .i64 P2) ∧ w'.cell? ⟨NN, 0, none⟩ = some (.int .i64 G0) ∧ w'.cell? ⟨NN, 1, none⟩ = some (.int .i64 G1)) (ds := [13]) #[false, false, false, false, false, false, false, false, false, false, false, false, false, false] zq1 (letsOut_inBlock letsOut_ownG) zq1 rfl rfl ⟨((blk_cell m1 1).trans rfl), ((blk_cell m4 0).trans rfl), ((blk_cell m4 1).trans rfl)⟩ (fun hHeld => ?_)
  generalize W2.drew = Wd at *
  refine zpz (i := 0) (N := some 15) zq1 ?_
  refine zpz (i := 2) (N := some 17) zq1 ?_
  refine zpz (i := 5) (N := some 20) zq1 ?_
  refine zpz (i := 7) (N := some 22) zq1 ?_
  refine ztz (i := 3) (N := some 18) zq1 hHeld ?_
  refine ztz (i := 6) (N := some 21) zq1 hHeld ?_
  refine ztz (i := 8) (N := some 23) zq1 hHeld ?_
  refine zpz (i := 9) (N := some 24) zq1 ?_
  refine one_ (i := 1) (N := some 16) #[true, true, true, true, false, true, true, true, true, true, false, false, false, false] rfl rfl zq1 (by decide) (fun K hK => ?_)
  have hc1 := (blk_cell m1 0).trans rfl
  refine value_ (w1 := ?_) (v := ?_) (by rfl) rfl ?_ ?_
  rotate_left 2
  ·go_simp
   constructor
   ·rfl
   ·rfl
  refine hK.out _ _ ⟨hHeld.1, hHeld.2.1, hHeld.2.2⟩ (fun hHeld => ?_)
  clear hK K
  refine norm_ zq4 ?_
  refine zpz (i := 4) (N := some 19) zq1 ?_
  refine zpz (i := 10) (N := some 25) zq1 ?_
  refine one_ (i := 11) (N := none) #[true, true, true, true, true, true, true, true, true, true, true, true, false, false] rfl rfl zq1 (by decide) (fun K hK => ?_)
  have hf := blk_frozen m1 0
  have hc := (blk_cell m1 0).trans rfl
  refine skip_ (w1 := ?_) (by rfl) rfl ?_ ?_
  rotate_left
  ·go_simp
   rfl
  refine hK.out _ _ ⟨((blk_cell (blk_put m1 0 _ rfl) 1).trans rfl), ((cell_far (p := ⟨w.heap.size + 1 + 1, _, none⟩) hne.symm _).trans hHeld.2.1), ((cell_far (p := ⟨w.heap.size + 1 + 1, _, none⟩) hne.symm _).trans hHeld.2.2)⟩ (fun hHeld => ?_)
  clear hK K
  refine zpz (i := 12) (N := some 26) zq1 ?_
  refine last_ (i := 13) (N := none) #[true, true, true, true, true, true, true, true, true, true, true, true, true, true] rfl rfl zq1 (by decide) (fun K hK => ?_)
  have hf2 := blk_frozen m1 1
  have hc2 := hHeld.1
  refine skip_ (w1 := ?_) (by rfl) rfl ?_ ?_
  rotate_left
  ·go_simp
   rfl
  refine hK.out _ _ ?_
  clear hK K
  refine done_ zq1 ?_
  have z0 : Blk (Wd.setCell ⟨w.heap.size + 1 + 1, 0, none⟩ (.int .i64 (if P1 < G0 then G0 else P1))) (w.heap.size + 1 + 1) #[.int .i64 (if P1 < G0 then G0 else P1), .int .i64 P2] 35 := blk_put m1 0 _ rfl
  have z1 : Blk ((Wd.setCell ⟨w.heap.size + 1 + 1, 0, none⟩ (.int .i64 (if P1 < G0 then G0 else P1))).setCell ⟨w.heap.size + 1 + 1, 1, none⟩ (.int .i64 (if G1 < P2 then G1 else P2))) (w.heap.size + 1 + 1) #[.int .i64 (if P1 < G0 then G0 else P1), .int .i64 (if G1 < P2 then G1 else P2)] 35 := blk_put z0 1 _ rfl
  exact ⟨mW.trans (keepsFrom_set2 _ _ _ _ _ _ _), hbW.trans (((Below.refl _ Wd).setCell mG _).setCell mG _), zq5, blk_far (blk_far m2 zq6 _) zq6 _, blk_far (blk_far m3 zq7 _) zq7 _, (mB.setCell mG _).setCell mG _⟩
 case done =>
  rintro D ys W hD rfl ⟨h1, h2, h3, h4⟩ hK
  obtain ⟨P1, P2, hR⟩ : ∃ P1 P2, meetF (ys.map g) = (P1, P2) := ⟨_, _, rfl⟩
  rw [hR] at h1
  dsimp only at h1
  have HR := Lib.hid hR
  clear hR
  gi_wp2_with fail
  refine wpIn_only (wpIn_wide.2 ?_)
  replace h1 := blk_drew h1
  replace h3 := blk_drew h3
  replace h4 := below_drew1 h4
  replace hK := blk_drew hK
  refine start_ (n := 8) (S := fun w' => w'.cell? ⟨w.heap.size + 1 + 1, 0, none⟩ = some (.int .i64 P1) ∧ w'.cell? ⟨w.heap.size + 1 + 1, 1, none⟩ = some (.int .i64 P2)) (ds := []) #[false, false, false, false, false, false, false, false] zq1 rfl rfl ⟨((blk_cell h1 0).trans rfl), ((blk_cell h1 1).trans rfl)⟩ (fun hHeld => ?_)
  generalize W.drew = Wd at *
  refine zpz (i := 1) (N := some 28) zq1 ?_
  refine zpz (i := 3) (N := some 30) zq1 ?_
  refine ztz (i := 0) (N := some 27) zq1 hHeld ?_
  refine ztz (i := 2) (N := some 29) zq1 hHeld ?_
  refine ztz (i := 4) (N := some 31) zq1 hHeld ?_
  refine zpz (i := 5) (N := some 32) zq1 ?_
  refine one_ (i := 6) (N := none) #[true, true, true, true, true, true, true, false] rfl rfl zq1 (by decide) (fun K hK => ?_)
  have hf0 := blk_frozen h3 0
  have hf1 := blk_frozen h3 1
  have hc0 := (blk_cell h3 0).trans rfl
  have hc1 := (blk_cell h3 1).trans rfl
  refine skip_ (w1 := ?_) (by rfl) rfl ?_ ?_
  rotate_left
  ·go_simp
   rfl
  refine hK.out _ _ ⟨((cell_far (p := ⟨w.heap.size + 1, _, none⟩) zq8 _).trans ((cell_far (p := ⟨w.heap.size + 1, _, none⟩) zq8 _).trans hHeld.1)), ((cell_far (p := ⟨w.heap.size + 1, _, none⟩) zq8 _).trans ((cell_far (p := ⟨w.heap.size + 1, _, none⟩) zq8 _).trans hHeld.2))⟩ (fun hHeld => ?_)
  clear hK K
  refine zpz (i := 7) (N := some 5) zq1 ?_
  refine done_ zq1 ?_
  have n3 : Blk ((Wd.setCell ⟨w.heap.size + 1, 0, none⟩ (.int .i64 P1)).setCell ⟨w.heap.size + 1, 1, none⟩ (.int .i64 P2)) (w.heap.size + 1) #[.int .i64 P1, .int .i64 P2] 35 := blk_put (blk_put h3 0 _ rfl) 1 _ rfl
  have hK1 : ((Wd.setCell ⟨w.heap.size + 1, 0, none⟩ (.int .i64 P1)).setCell ⟨w.heap.size + 1, 1, none⟩ (.int .i64 P2)).heap[D]? = some (.deferred (some [])) :=
   (Below.heap_setCell _ _ _ D (by show D ≠ w.heap.size + 1; omega)).trans ((Below.heap_setCell _ _ _ D (by show D ≠ w.heap.size + 1; omega)).trans hK)
  have hB2 : Below w.heap.size w ((Wd.setCell ⟨w.heap.size + 1, 0, none⟩ (.int .i64 P1)).setCell ⟨w.heap.size + 1, 1, none⟩ (.int .i64 P2)) := (h4.setCell (p := ⟨w.heap.size + 1, 0, none⟩) zq9 _).setCell (p := ⟨w.heap.size + 1, 1, none⟩) zq9 _
  refine onlyN_normal ?_
  gi_wp2
  refine ⟨by simp, .inl ⟨_, _, rfl, run_takeDeferred hK1, ?_⟩⟩
  refine ⟨_, results_ct rfl _ _ (w.heap.size + 1) 35 #[.int .i64 P1, .int .i64 P2] (0, 0) _ rfl ((World.putObj_heap_other (by omega)).trans n3) Try.underlying35 rfl zq1, by rw [HR.out]; rfl, hB2.trans (belowK_b (w := w) (Nat.le_refl _) _ D _ _ (by omega) hK1 rfl rfl)⟩
 case stop =>
  rintro D c pre W hD _ h _
  exact h.elim
end Go.Proofs.Ytcjdhajdoikojaa.Clk
end
section
namespace Go.Proofs.Ytcjdhajdoikojaa.Pr
open Go.RowKit Go.Proofs.YtcjdhajdoikojaaW.PrintWords Go.Proofs.YtcjdhajdoikojaaW.PrintLast Go.Proofs.YtcjdhajdoikojaaW.PrintMore
attribute [local go_sem] max2_int min2_int max_two min_two
set_option linter.unusedVariables false
set_option linter.unusedSimpArgs false

/-! ### clock_growth: function 94 -/
def clock_growth.f (a0 : Int) (a1 : Int) : Option (Int) := some (wrap64 ((wrap64 (a0 * (wrap64 (Int.tdiv (mx a1 (wrap64 (-a1))) 1000000000)))) + (wrap64 (Int.tdiv (wrap64 ((wrap64 ((wrap64 (a0 * (Int.tmod (mx a1 (wrap64 (-a1))) 1000000000))) + 1000000000)) - 1)) 1000000000))))
set_option maxHeartbeats 8000000 in
set_option maxRecDepth 100000 in
theorem clock_growth.calls (a0 : Int) (a1 : Int) (r : Int) (w : World) (h : clock_growth.f a0 a1 = some r) :
  Calls Try.prog 94 #[.int .i64 a0, .int .i64 a1] w fun e w' => e = .returned (.int .i64 r) ∧ Below w.heap.size w w' := by
 have HB := Aside0.mk (Below.refl w.heap.size w)
 have H : (some (wrap64 ((wrap64 (a0 * (wrap64 (Int.tdiv (mx a1 (wrap64 (-a1))) 1000000000)))) + (wrap64 (Int.tdiv (wrap64 ((wrap64 ((wrap64 (a0 * (Int.tmod (mx a1 (wrap64 (-a1))) 1000000000))) + 1000000000)) - 1)) 1000000000))))) = some r := h
 clear h
 obtain ⟨ji3, hji3⟩ : ∃ j_ : Int, (mx a1 (wrap64 (-a1))) = j_ := ⟨_, rfl⟩
 replace H : (some (wrap64 ((wrap64 (a0 * (wrap64 (Int.tdiv (ji3) 1000000000)))) + (wrap64 (Int.tdiv (wrap64 ((wrap64 ((wrap64 (a0 * (Int.tmod (ji3) 1000000000))) + 1000000000)) - 1)) 1000000000))))) = some r := by first | (rw [hji3] at H; exact H) | (simp only [hji3] at H ⊢; exact H)
 have hji3_ : (if a1 < (wrap64 (-a1)) then (wrap64 (-a1)) else a1) = ji3 := hji3
 obtain rfl := Option.some.inj H
 go_enter Try.func94, Try.ntmps94
 go_wp2
 go_ret
 exact ⟨by first | rfl | (simp [errW_none, errW_some] <;> rfl) | (simp only [← hji3]; first | rfl | (simp [errW_none, errW_some] <;> rfl)) | (simp [*, errW_none, errW_some] <;> rfl), zbz⟩

end Go.Proofs.Ytcjdhajdoikojaa.Pr
end
section
namespace Go.Proofs.Ytcjdhajdoikojaa.Pr
open Go.RowKit Go.Proofs.YtcjdhajdoikojaaW.PrintWords Go.Proofs.YtcjdhajdoikojaaW.PrintLast Go.Proofs.YtcjdhajdoikojaaW.PrintMore
attribute [local go_sem] max2_int min2_int max_two min_two
set_option linter.unusedVariables false
set_option linter.unusedSimpArgs false

/-! ### clock_shift: function 93 -/
def clock_shift.f (a0_0 : Int) (a0_1 : Int) (a1 : Int) (a2 : Int) : Option (Int × Int) := some (wrap64 ((wrap64 (a0_0 + a1)) - a2), wrap64 ((wrap64 (a0_1 + a1)) + a2))
set_option maxHeartbeats 8000000 in
set_option maxRecDepth 100000 in
theorem clock_shift.calls (a0_0 : Int) (a0_1 : Int) (a1 : Int) (a2 : Int) (r1 : Int) (r2 : Int) (w : World) (h : clock_shift.f a0_0 a0_1 a1 a2 = some (r1, r2)) :
  Calls Try.prog 93 #[.agg #[.int .i64 a0_0, .int .i64 a0_1], .int .i64 a1, .int .i64 a2] w fun e w' => e = .returned (.agg #[.int .i64 r1, .int .i64 r2]) ∧ Below w.heap.size w w' := by
 have hu35 := Try.underlying35
 have HB := Aside0.mk (Below.refl w.heap.size w)
 have H : (some (wrap64 ((wrap64 (a0_0 + a1)) - a2), wrap64 ((wrap64 (a0_1 + a1)) + a2))) = some (r1, r2) := h
 clear h
 simp only [Option.some.injEq, Prod.mk.injEq] at H
 obtain ⟨rfl, rfl⟩ := H
 go_enter Try.func93, Try.ntmps93
 go_wp2_with (first | ((with_reducible refine gate_dst (N := 3) rfl ?_); refine box_event (by rfl) (N := 3) (by rfl) (cs := #[.int .i64 a0_0, .int .i64 a0_1]) (t := 35) zq2 ?_; intro gb172 hg w4 hbox hb; have BK172 := Aside0.mk (hbox); have GW172 := zgs HB hg; have GE172 := zgs HB hg; replace HB := zbs HB hb; clear hb hbox hg) | ((with_reducible refine gate_dst (N := 6) rfl ?_); refine box_event (by rfl) (N := 6) (by rfl) (cs := #[.int .i64 0, .int .i64 0]) (t := 35) zq2 ?_; intro gb173 hg w5 hbox hb; have BK173 := Aside0.mk (hbox); have GW173 := zgs HB hg; have GE173 := zgs HB hg; have NB172_173 := znp BK172 hg; have NB173_172 := znq BK172 hg; replace BK172 := zbb BK172 hb; replace HB := zbs HB hb; clear hb hbox hg; have hnb6 := NB172_173.out; have hnc6 := NB173_172.out; obtain ⟨hcz7_0, hcz7_1, hfz7_0, hfz7_1⟩ := zce2 BK172.out; obtain ⟨hcz8_0, hcz8_1, hfz8_0, hfz8_1⟩ := zce2 BK173.out))
 refine bodyPost_ret (results_cell_row rfl _ _ gb173 35 #[.int .i64 (wrap64 ((wrap64 (a0_0 + a1)) - a2)), .int .i64 (wrap64 ((wrap64 (a0_1 + a1)) + a2))] (0, 0) _ rfl (by (with_reducible repeat (first | refine blk_drewN ?_ _ | refine blk_drew ?_ | refine blk_alloc ?_ _)); refine blk_put (cs := #[.int .i64 (wrap64 ((wrap64 (a0_0 + a1)) - a2)), .int .i64 0]) ?_ 1 _ rfl; (with_reducible repeat (first | refine blk_drewN ?_ _ | refine blk_drew ?_ | refine blk_alloc ?_ _)); refine blk_put (cs := #[.int .i64 0, .int .i64 0]) ?_ 0 _ rfl; (with_reducible repeat (first | refine blk_drewN ?_ _ | refine blk_drew ?_ | refine blk_alloc ?_ _)); exact BK173.out) Try.underlying35 rfl zq1) rfl ?_
 exact ⟨zq3, zbz⟩

end Go.Proofs.Ytcjdhajdoikojaa.Pr
end
section
namespace Go.Proofs.Ytcjdhajdoikojaa.Pr
open Go.RowKit Go.Proofs.YtcjdhajdoikojaaW.PrintWords Go.Proofs.YtcjdhajdoikojaaW.PrintLast Go.Proofs.YtcjdhajdoikojaaW.PrintMore
attribute [local go_sem] max2_int min2_int max_two min_two
set_option linter.unusedVariables false
set_option linter.unusedSimpArgs false

/-! ### clock_itself: function 85 -/
def clock_itself.f (a0_0 : Int) (a0_1 : Int) : Option (Int × Int) := some (a0_0, a0_1)
set_option maxHeartbeats 8000000 in
set_option maxRecDepth 100000 in
theorem clock_itself.calls (a0_0 : Int) (a0_1 : Int) (r1 : Int) (r2 : Int) (w : World) (h : clock_itself.f a0_0 a0_1 = some (r1, r2)) :
  Calls Try.prog 85 #[.agg #[.int .i64 a0_0, .int .i64 a0_1]] w fun e w' => e = .returned (.agg #[.int .i64 r1, .int .i64 r2]) ∧ Below w.heap.size w w' := by
 have hu35 := Try.underlying35
 have HB := Aside0.mk (Below.refl w.heap.size w)
 have H : (some (a0_0, a0_1)) = some (r1, r2) := h
 clear h
 simp only [Option.some.injEq, Prod.mk.injEq] at H
 obtain ⟨rfl, rfl⟩ := H
 go_enter Try.func85, Try.ntmps85
 go_wp2_with (first | ((with_reducible refine gate_dst (N := 1) rfl ?_); refine box_event (by rfl) (N := 1) (by rfl) (cs := #[.int .i64 a0_0, .int .i64 a0_1]) (t := 35) zq2 ?_; intro gb170 hg w2 hbox hb; have BK170 := Aside0.mk (hbox); have GW170 := zgs HB hg; have GE170 := zgs HB hg; replace HB := zbs HB hb; clear hb hbox hg) | ((with_reducible refine gate_dst (N := 2) rfl ?_); refine box_event (by rfl) (N := 2) (by rfl) (cs := #[.int .i64 0, .int .i64 0]) (t := 35) zq2 ?_; intro gb171 hg w3 hbox hb; have BK171 := Aside0.mk (hbox); have GW171 := zgs HB hg; have GE171 := zgs HB hg; have NB170_171 := znp BK170 hg; have NB171_170 := znq BK170 hg; replace BK170 := zbb BK170 hb; replace HB := zbs HB hb; clear hb hbox hg; have hnb4 := NB170_171.out; have hnc4 := NB171_170.out; obtain ⟨hcz5_0, hcz5_1, hfz5_0, hfz5_1⟩ := zce2 BK170.out; obtain ⟨hcz6_0, hcz6_1, hfz6_0, hfz6_1⟩ := zce2 BK171.out))
 refine bodyPost_ret (results_cell_row rfl _ _ gb171 35 #[.int .i64 a0_0, .int .i64 a0_1] (0, 0) _ rfl (by (with_reducible repeat (first | refine blk_drewN ?_ _ | refine blk_drew ?_ | refine blk_alloc ?_ _)); refine blk_put (cs := #[.int .i64 a0_0, .int .i64 0]) ?_ 1 _ rfl; (with_reducible repeat (first | refine blk_drewN ?_ _ | refine blk_drew ?_ | refine blk_alloc ?_ _)); refine blk_put (cs := #[.int .i64 0, .int .i64 0]) ?_ 0 _ rfl; (with_reducible repeat (first | refine blk_drewN ?_ _ | refine blk_drew ?_ | refine blk_alloc ?_ _)); exact BK171.out) Try.underlying35 rfl zq1) rfl ?_
 exact ⟨zq3, zbz⟩

end Go.Proofs.Ytcjdhajdoikojaa.Pr
end
