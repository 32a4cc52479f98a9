/- Part 14 of the proof of ClockOrder: what the functions compute. No condition. -/
import Derived.SizedLaws
import Derived.ChangeSlices
import Derived.Deep.Slices
import Derived.ChangeArms
import Derived.DataReads
import Derived.WideShapes
import Derived.KernelRfl
import Derived.Test.YtcjdhajdoikojaaCoClockOrder3
import Derived.Test.YtcjdhajdoikojaaCoClockOrder10
import Derived.Test.YtcjdhajdoikojaaCoClockOrder11
import Derived.Test.YtcjdhajdoikojaaCoClockOrder12
import Derived.Test.YtcjdhajdoikojaaCoClockOrder13
set_option linter.unusedVariables false
set_option linter.unusedSimpArgs false
section
-- PRINTED BY print.sh 35421559b90ae4d0a3588c463048766b98c2df88dd9212a6774a882060cdf62d: not written by this session
-- PRINTED WORDS (module Derived/Print/Sized.lean): go-gate-2's, for the rows of laws over slices: an AI agent of Go's test side, Tue Nov 17 2026; no person has read it. Lean checks it.
namespace Go.Proofs.YtcjdhajdoikojaaW.PrintWords
open Go.ChangeShapes Go.WideShapes
end Go.Proofs.YtcjdhajdoikojaaW.PrintWords
end
section
/- What is read of an argument of a law: a datum of a type reads as a value of its kind; its whole numbers are of their kind, and its slices are within the reach. No condition. -/
namespace Go.Proofs.YtcjdhajdoikojaaW.Opens
open Go.RowKit Go.Proofs.YtcjdhajdoikojaaW.PrintWords Go.Deep Go.ChangeShapes Go.WideShapes
set_option linter.unusedVariables false
section
variable {H : Type} {enc : TypeId × Value → H} {P : Program}

/-- A datum of type t reads as a value of the kind K of which G holds. -/
def Opens {α : Type} (enc : TypeId × Value → H) (P : Program) (t : TypeId) (K : Kd α) (G : α → Prop) : Prop :=
 ∀ (w : World) (fuel : Nat) (cs : List Value) (x : DataW H × List MemPlace), DataW.trod enc P w 0 (fun _ => true) true fuel t cs = some x → (DataW.weights P t x.1).all (· ≤ reachBytes) = true → ∃ y, K.K w y cs ∧ G y

theorem Opens.int {t : TypeId} {k : IntKind} (hu : P.underlying t = some (.int k)) : Opens enc P t (Kd.int k) (fun n => (Lit.int k n).wf = true) := by
 intro w fuel cs x h _
 cases fuel with
 | zero => simp [DataW.trod] at h
 | succ n =>
  unfold DataW.trod at h
  rw [hu] at h
  split at h <;> simp_all
  obtain ⟨⟨rfl, hw⟩, _⟩ := h
  rename_i n _ _
  exact ⟨_, rfl, hw⟩
/-- The elements of an array from number i on. -/
def OpensAr {α : Type} (enc : TypeId × Value → H) (P : Program) (e : TypeId) (i n : Nat) (K : Kd α) (G : α → Prop) : Prop :=
 ∀ (w : World) (fuel : Nat) (cs : List Value) (xs : List (DataW H × List MemPlace)), cs.length = i * P.cellsOf e + K.sz → xs.length = n →
  (∀ (j : Nat), j < n → DataW.trod enc P w 0 (fun _ => true) true fuel e ((cs.drop ((i + j) * P.cellsOf e)).take (P.cellsOf e)) = xs[j]?) →
  (DataW.weightsAll P e (xs.map (·.1))).all (· ≤ reachBytes) = true → ∃ y, K.K w y (cs.drop (i * P.cellsOf e)) ∧ G y
theorem OpensAr.one {α : Type} {e : TypeId} {i : Nat} {K : Kd α} {G : α → Prop} (hsz : P.cellsOf e = K.sz) (h : Opens enc P e K G) : OpensAr enc P e i 1 K G := by
 intro w fuel cs xs hl hx hi hw
 obtain ⟨x, rfl⟩ : ∃ x, xs = [x] := by
  match xs, hx with
  | [x], _ => exact ⟨x, rfl⟩
 have h1 := hi 0 (by omega)
 rw [Nat.add_zero, List.take_of_length_le (by simp; omega)] at h1
 exact h w fuel _ x h1 (by simpa [DataW.weightsAll] using hw)
theorem OpensAr.cons {α β : Type} {e : TypeId} {i n : Nat} {K : Kd α} {G : α → Prop} {K' : Kd β} {G' : β → Prop} (hsz : P.cellsOf e = K.sz) (h : Opens enc P e K G) (h' : OpensAr enc P e (i + 1) n K' G') :
  OpensAr enc P e i (n + 1) (Kd.pair K K') (fun y => G y.1 ∧ G' y.2) := by
 intro w fuel cs xs hl hx hi hw
 obtain ⟨x, xs', rfl⟩ : ∃ x xs', xs = x :: xs' := by
  match xs, hx with
  | x :: xs', _ => exact ⟨x, xs', rfl⟩
 have hl2 : cs.length = i * P.cellsOf e + (K.sz + K'.sz) := hl
 have h1 := hi 0 (by omega)
 rw [Nat.add_zero] at h1
 simp only [List.map_cons, DataW.weightsAll, List.all_append, Bool.and_eq_true] at hw
 obtain ⟨y, hy, gy⟩ := h w fuel _ x h1 hw.1
 have e1 : (i + 1) * P.cellsOf e = i * P.cellsOf e + P.cellsOf e := by rw [Nat.add_mul, Nat.one_mul]
 obtain ⟨y', hy', gy'⟩ := h' w fuel cs xs' (by omega) (by simpa using hx) (fun j hj => by
  have := hi (j + 1) (by omega)
  rw [show i + (j + 1) = i + 1 + j from by omega] at this
  simpa using this) hw.2
 refine ⟨(y, y'), ⟨_, _, ?_, hy, hy'⟩, gy, gy'⟩
 rw [e1, ← List.drop_drop, List.take_append_drop]
theorem Opens.array {α β : Type} {t e : TypeId} {n : Nat} {K : Kd α} {G : α → Prop} {f : β → α} (g : α → β) (hu : P.underlying t = some (.array n e)) (hsz : P.cellsOf t = K.sz) (hg : ∀ y, f (g y) = y) (h : OpensAr enc P e 0 n K G) :
  Opens enc P t (Kd.iso K f) (fun z => G (f z)) := by
 intro w fuel cs x hx hw
 cases fuel with
 | zero => simp [DataW.trod] at hx
 | succ m =>
  unfold DataW.trod at hx
  rw [hu] at hx
  dsimp only at hx
  split at hx
  ·rename_i hl
   rw [Option.map_eq_some_iff] at hx
   obtain ⟨xs, hm, rfl⟩ := hx
   obtain ⟨y, hy, gy⟩ := h w m cs xs (by omega) (by simpa using mapM_some_length hm) (fun j hj => by
    have := mapM_some_get hm j j (by simp [hj])
    simpa using this) (by simpa [DataW.weights, hu] using hw)
   refine ⟨g y, ?_, by show G (f (g y)); rw [hg]; exact gy⟩
   show K.K w (f (g y)) cs
   rw [hg]
   simpa using hy
  ·cases hx

theorem list_of_lt {α : Type} {Q : Nat → α → Prop} : ∀ (n : Nat), (∀ i, i < n → ∃ y, Q i y) → ∃ ys : List α, ys.length = n ∧ ∀ i y, ys[i]? = some y → Q i y
 | 0, _ => ⟨[], rfl, fun i y h => by simp at h⟩
 | n + 1, h => by
  obtain ⟨ys, hl, hq⟩ := list_of_lt n (fun i hi => h i (by omega))
  obtain ⟨y, hy⟩ := h n (by omega)
  refine ⟨ys ++ [y], by simp [hl], fun i z hz => ?_⟩
  rw [List.getElem?_append] at hz
  split at hz
  ·exact hq i z hz
  ·rename_i hi
   obtain rfl : i = n := by
    have := (List.getElem?_eq_some_iff.1 hz).1
    simp at this
    omega
   simp [hl] at hz
   exact hz ▸ hy
theorem weightsAll_mem {e : TypeId} : ∀ {ds : List (DataW H)} {d : DataW H}, (DataW.weightsAll P e ds).all (· ≤ reachBytes) = true → d ∈ ds → (DataW.weights P e d).all (· ≤ reachBytes) = true
 | [], _, _, h => by cases h
 | a :: r, d, hw, h => by
  simp only [DataW.weightsAll, List.all_append, Bool.and_eq_true] at hw
  rcases List.mem_cons.1 h with rfl | h
  ·exact hw.1
  ·exact weightsAll_mem hw.2 h
theorem Opens.slice {α : Type} {t e : TypeId} (e' : Nat) {K : Kd α} {G : α → Prop} (hu : P.underlying t = some (.slice e)) (hsz : P.cellsOf e = K.sz) (h : Opens enc P e K G) :
  Opens enc P t (Kd.slice e' K) (fun ys => (∀ y ∈ ys, G y) ∧ ys.length * P.bytesOf e ≤ reachBytes) := by
 intro w fuel cs x hx hw
 rcases open_slice hu hx with ⟨rfl, rfl⟩ | ⟨a, len, cap, m, n, D, Pl, rfl, hb, hl, hm, hmm, rfl, hi⟩
 ·exact ⟨[], ⟨none, 0, rfl, by simp, ⟨rfl, by simp, fun h => by simp at h⟩⟩, by simp, by simp⟩
 ·have hmc : m = cap := by simpa using hmm
  subst hmc
  simp only [DataW.weights, hu, List.all_cons, List.all_append, Bool.and_eq_true, decide_eq_true_eq, List.length_map, List.length_range] at hw
  obtain ⟨ys, hyl, hys⟩ := list_of_lt (Q := fun i y => (∃ cs', w.cells? 0 (a.add (i * P.cellsOf e)) (P.cellsOf e) = some cs' ∧ K.K w y cs') ∧ G y) len (fun i hil => by
   obtain ⟨cs', hc, ht⟩ := hi i (by omega)
   obtain ⟨y, hy, gy⟩ := h w n cs' _ ht (weightsAll_mem hw.2.1 (List.mem_map.2 ⟨i, List.mem_range.2 hil, rfl⟩))
   exact ⟨y, ⟨cs', hc, hy⟩, gy⟩)
  refine ⟨ys, ⟨some a, m, by rw [hyl], by omega, hyl.trans hyl.symm |>.trans (by rfl), ?_, fun _ => ⟨a, rfl, fun j p hj => ?_⟩⟩, fun y hy => ?_, ?_⟩
  ·unfold maxLen at hm
   omega
  ·obtain ⟨⟨cs', hc, hk⟩, _⟩ := hys j p hj
   obtain ⟨_, hcl, hcell⟩ := World.cells?_some hc
   refine ⟨cs', by rw [hcl, hsz], hk, fun i u hu' => ?_⟩
   have hlt := (List.getElem?_eq_some_iff.1 hu').1
   rw [← Go.Deep.add_add, ← hsz, hcell i (by omega), hu']
  ·obtain ⟨j, hj⟩ := List.getElem?_of_mem hy
   exact (hys j y hj).2
  ·refine Nat.le_trans (Nat.mul_le_mul_right _ (show ys.length ≤ len + (m - len) by omega)) hw.1
/-- An argument of a law. -/
theorem Opens.arg {α : Type} {t : TypeId} {K : Kd α} {G : α → Prop} (h : Opens enc P t K G) {w : World} {v : Value} {d : DataW H} {p : List MemPlace} (ht : DataW.Trod enc P w 0 (fun _ => true) true t v d p)
  {ts : List TypeId} {ds : List (DataW H)} (hsz : (DataW.weightsEach P ts ds).all (· ≤ reachBytes) = true) {j : Nat} (hj : ts[j]? = some t) (hd : ds[j]? = some d) : ∃ y, K.K w y v.cells.toList ∧ G y := by
 obtain ⟨fuel, hf⟩ := ht
 exact h w fuel _ _ hf (List.all_eq_true.2 fun n hn => List.all_eq_true.1 hsz _ (DataW.weights_mem_each hj hd n hn))
end
end Go.Proofs.YtcjdhajdoikojaaW.Opens
end
section
/- What is known of the arguments of the laws. -/
namespace Go.Proofs.Ytcjdhajdoikojaa.Good
open Go.RowKit Go.Proofs.YtcjdhajdoikojaaW.PrintWords Go.Proofs.YtcjdhajdoikojaaW.PrintLast Go.Proofs.YtcjdhajdoikojaaW.PrintMore Go.Proofs.Ytcjdhajdoikojaa.Pr Go.Proofs.YtcjdhajdoikojaaW.Opens
set_option linter.unusedVariables false
def W86 (x : S86) : Prop := (Lit.int .u16 x.f0).wf = true ∧ (Lit.int .u16 x.f1).wf = true
theorem opens86 {H : Type} {enc : TypeId × Value → H} : Opens enc Try.prog 86 k86 W86 := Opens.array (fun p => ⟨p.1, p.2⟩) Try.underlying86 zq1 (fun _ => rfl) (OpensAr.cons zq1 (Opens.int Try.underlying47) (OpensAr.one zq1 (Opens.int Try.underlying47)))
end Go.Proofs.Ytcjdhajdoikojaa.Good
end
section
/- The arithmetic of clocks: no number leaves its range, so what is computed is what is meant. -/
namespace Go.Proofs.Ytcjdhajdoikojaa.Clk
open Go.RowKit Go.Proofs.YtcjdhajdoikojaaW.PrintWords Go.Proofs.YtcjdhajdoikojaaW.PrintMore Go.Proofs.Ytcjdhajdoikojaa.Pr

theorem wrap_id {n : Int} (h0 : -9223372036854775808 ≤ n) (h1 : n ≤ 9223372036854775807) : wrap64 n = n := by
 unfold wrap64
 omega
theorem mx_max (a b : Int) : mx a b = max a b := by
 unfold mx
 split <;> omega
theorem mn_min (a b : Int) : mn a b = min a b := by
 unfold mn
 split <;> omega
end Go.Proofs.Ytcjdhajdoikojaa.Clk
end
section
/- How the offset of a clock changes with the reading: behind the last exchange it becomes no narrower; halving finds the first reading. -/
namespace Go.Proofs.Ytcjdhajdoikojaa.Clk
open Go.RowKit Go.Proofs.YtcjdhajdoikojaaW.PrintWords Go.Proofs.YtcjdhajdoikojaaW.PrintMore Go.Proofs.Ytcjdhajdoikojaa.Pr

end Go.Proofs.Ytcjdhajdoikojaa.Clk
end
section
/- Valid exchanges and their offsets, in clean numbers. -/
namespace Go.Proofs.Ytcjdhajdoikojaa.Clk
open Go.RowKit Go.Proofs.YtcjdhajdoikojaaW.PrintWords Go.Proofs.YtcjdhajdoikojaaW.PrintMore Go.Proofs.Ytcjdhajdoikojaa.Pr

end Go.Proofs.Ytcjdhajdoikojaa.Clk
end
section
/- The ranks of events: what the program and the document's answer compute. -/
namespace Go.Proofs.Ytcjdhajdoikojaa.Clk
open Go.RowKit Go.Proofs.YtcjdhajdoikojaaW.PrintWords Go.Proofs.YtcjdhajdoikojaaW.PrintMore Go.Proofs.Ytcjdhajdoikojaa.Pr

/-- Is span i before span k, for certain (1), or not (0)? -/
def bef (l : List S35) (i k : Nat) : Int := if (rd_T35 l (i : Int)).f1 < (rd_T35 l (k : Int)).f0 then 1 else 0
theorem bef_01 (l : List S35) (i k : Nat) : 0 ≤ bef l i k ∧ bef l i k ≤ 1 := by
 unfold bef
 split <;> omega
def sumTo (f : Nat → Int) : Nat → Int
 | 0 => 0
 | m + 1 => sumTo f m + f m
theorem sumTo_01 {f : Nat → Int} (h : ∀ i, 0 ≤ f i ∧ f i ≤ 1) : ∀ m, 0 ≤ sumTo f m ∧ sumTo f m ≤ (m : Int)
 | 0 => by unfold sumTo; omega
 | m + 1 => by
  have := sumTo_01 h m
  have := h m
  unfold sumTo
  omega
/-- A list of pairs, by what it holds at each place. -/
def mkL (n : Nat) (F G : Nat → Int) : List S81 := (List.range n).map fun j => (⟨F j, G j⟩ : S81)
theorem mkL_len (n : Nat) (F G : Nat → Int) : (mkL n F G).length = n := by unfold mkL; rw [List.length_map, List.length_range]
theorem mkL_rd {n : Nat} {F G : Nat → Int} {i : Nat} (h : i < n) : rd_T81 (mkL n F G) (i : Int) = ⟨F i, G i⟩ := by
 unfold rd_T81 mkL
 rw [List.getD_eq_getElem?_getD, Int.toNat_natCast, List.getElem?_map, List.getElem?_range h]
 rfl
theorem mkL_set {n : Nat} {F G F' G' : Nat → Int} {i : Nat} (h : i < n) {a b : Int} (hF : ∀ j, F' j = if j = i then a else F j) (hG : ∀ j, G' j = if j = i then b else G j) : (mkL n F G).set i ⟨a, b⟩ = mkL n F' G' := by
 unfold mkL
 apply List.ext_getElem?
 intro j
 rw [List.getElem?_set, List.getElem?_map, List.getElem?_map, List.length_map, List.length_range]
 by_cases hj : i = j
 ·subst hj
  rw [if_pos rfl, if_pos h, List.getElem?_range h, Option.map_some, hF, hG, if_pos rfl, if_pos rfl]
 ·rw [if_neg hj]
  cases hr : (List.range n)[j]? with
  | none => rfl
  | some q =>
   obtain ⟨hq, hq2⟩ := List.getElem?_eq_some_iff.1 hr
   rw [List.getElem_range] at hq2
   subst hq2
   rw [Option.map_some, Option.map_some, hF, hG, if_neg (fun e => hj e.symm), if_neg (fun e => hj e.symm)]
theorem mkL_congr {n : Nat} {F G F' G' : Nat → Int} (hF : ∀ j, F j = F' j) (hG : ∀ j, G j = G' j) : mkL n F G = mkL n F' G' := by
 rw [show F = F' from funext hF, show G = G' from funext hG]
/-- The ranks of the spans of a list. -/
def ranksI (l : List S35) : List S81 := mkL l.length (fun j => sumTo (fun i => bef l i j) l.length) (fun j => (l.length : Int) - 1 - sumTo (fun k => bef l j k) l.length)
theorem before_eq (l : List S35) (i k : Nat) : ∃ v, clock_before.f ((rd_T35 l (i : Int)).f0) ((rd_T35 l (i : Int)).f1) ((rd_T35 l (k : Int)).f0) ((rd_T35 l (k : Int)).f1) = some v ∧ ((v = 2 ∧ bef l i k = 1) ∨ (v ≠ 2 ∧ bef l i k = 0)) := by
 unfold clock_before.f bef
 by_cases h : (rd_T35 l (i : Int)).f1 < (rd_T35 l (k : Int)).f0
 ·rw [if_pos h, if_pos h]
  exact ⟨2, rfl, .inl ⟨rfl, rfl⟩⟩
 ·rw [if_neg h, if_neg h]
  split
  ·exact ⟨0, rfl, .inr ⟨by decide, rfl⟩⟩
  ·exact ⟨1, rfl, .inr ⟨by decide, rfl⟩⟩
section
variable {l : List S35} (hl : l.length ≤ 128)
include hl
theorem ranks_l2 (i : Nat) (hi : i < l.length) {R : Option (List S81 × Int)} {B : Nat}
  (hR : ∀ K, B ≤ K → clock_Ranks.l1 K l (mkL l.length (fun j => sumTo (fun q => bef l q j) (i + 1)) (fun j => (l.length : Int) - 1 - if j ≤ i then sumTo (fun k => bef l j k) l.length else 0)) l (l.length : Int) (wrap64 ((i : Int) + 1)) = R) :
  ∀ (m k K : Nat), k + m = l.length → B + m + 1 ≤ K → clock_Ranks.l2 K l (mkL l.length (fun j => sumTo (fun q => bef l q j) i + if j < k then bef l i j else 0) (fun j => (l.length : Int) - 1 - if j < i then sumTo (fun k => bef l j k) l.length else if j = i then sumTo (fun k => bef l i k) k else 0)) (i : Int) l (l.length : Int) (i : Int) l (l.length : Int) (k : Int) ((rd_T35 l (i : Int)).f0) ((rd_T35 l (i : Int)).f1) = R := by
 intro m
 induction m with
 | zero =>
  intro k K h hK
  obtain ⟨K, rfl⟩ : ∃ q, K = q + 1 := ⟨K - 1, by omega⟩
  obtain rfl : k = l.length := by omega
  rw [clock_Ranks.l2, if_neg (by omega), ← hR K (by omega)]
  congr 1
  unfold mkL
  apply List.map_congr_left
  intro j hj
  have hj := List.mem_range.1 hj
  dsimp only
  rw [if_pos hj]
  have e1 : sumTo (fun q => bef l q j) (i + 1) = sumTo (fun q => bef l q j) i + bef l i j := rfl
  rw [e1]
  by_cases h1 : j < i
  ·rw [if_pos h1, if_pos (by omega)]
  ·rw [if_neg h1]
   by_cases h2 : j = i
   ·subst h2
    rw [if_pos rfl, if_pos (Nat.le_refl _)]
   ·rw [if_neg h2, if_neg (by omega)]
 | succ m ih =>
  intro k K h hK
  obtain ⟨K, rfl⟩ : ∃ q, K = q + 1 := ⟨K - 1, by omega⟩
  have hk : k < l.length := by omega
  obtain ⟨v, hv, hc⟩ := before_eq l i k
  have s1 := sumTo_01 (fun q => bef_01 l q k) i
  have s2 : 0 ≤ sumTo (fun q => bef l i q) k ∧ sumTo (fun q => bef l i q) k ≤ (k : Int) := sumTo_01 (fun q => bef_01 l i q) k
  rw [clock_Ranks.l2, if_pos (by omega), if_pos (by omega), if_pos (by omega), hv, Option.bind_some, wrap_id (n := (k : Int) + 1) (by omega) (by omega)]
  have e2 : sumTo (fun q => bef l i q) (k + 1) = sumTo (fun q => bef l i q) k + bef l i k := rfl
  rcases hc with ⟨rfl, hb⟩ | ⟨hv2, hb⟩
  ·rw [if_pos rfl, if_pos (by omega), mkL_len, if_pos (by omega), mkL_rd hi, Option.bind_some, if_pos (by omega), Int.toNat_natCast, Int.toNat_natCast]
   dsimp only
   rw [if_neg (Nat.lt_irrefl i), if_pos rfl]
   have w1 : wrap64 ((l.length : Int) - 1 - sumTo (fun q => bef l i q) k - 1) = (l.length : Int) - 1 - sumTo (fun q => bef l i q) (k + 1) := by
    rw [wrap_id (by omega) (by omega), e2, hb]
    omega
   rw [w1, mkL_set (F' := fun j => sumTo (fun q => bef l q j) i + if j < k then bef l i j else 0) (G' := fun j => (l.length : Int) - 1 - if j < i then sumTo (fun k => bef l j k) l.length else if j = i then sumTo (fun q => bef l i q) (k + 1) else 0) hi
    (fun j => by by_cases e : j = i <;> simp [e]) (fun j => by
     by_cases e : j = i
     ·subst e
      simp
     ·rw [if_neg e, if_neg e, if_neg e]), mkL_rd hk]
   dsimp only
   rw [if_neg (Nat.lt_irrefl k), Int.add_zero, wrap_id (n := sumTo (fun q => bef l q k) i + 1) (by omega) (by omega)]
   rw [mkL_set (F' := fun j => sumTo (fun q => bef l q j) i + if j < k + 1 then bef l i j else 0) (G' := fun j => (l.length : Int) - 1 - if j < i then sumTo (fun k => bef l j k) l.length else if j = i then sumTo (fun q => bef l i q) (k + 1) else 0) hk
    (fun j => by
     by_cases e : j = k
     ·subst e
      rw [if_pos rfl, if_pos (by omega), hb]
     ·rw [if_neg e]
      by_cases e3 : j < k
      ·rw [if_pos e3, if_pos (by omega)]
      ·rw [if_neg e3, if_neg (by omega)]) (fun j => by by_cases e : j = k <;> simp [e])]
   rw [show ((k : Int) + 1) = ((k + 1 : Nat) : Int) by omega]
   exact ih (k + 1) K (by omega) (by omega)
  ·rw [if_neg hv2, show ((k : Int) + 1) = ((k + 1 : Nat) : Int) by omega, ← ih (k + 1) K (by omega) (by omega)]
   congr 1
   apply mkL_congr
   ·intro j
    by_cases e : j = k
    ·subst e
     rw [if_neg (Nat.lt_irrefl j), if_pos (by omega), hb]
    ·by_cases e3 : j < k
     ·rw [if_pos e3, if_pos (by omega)]
     ·rw [if_neg e3, if_neg (by omega)]
   ·intro j
    rw [e2, hb, Int.add_zero]
theorem ranks_l1 : ∀ (m i K : Nat), i + m = l.length → m * 200 + 2 ≤ K → clock_Ranks.l1 K l (mkL l.length (fun j => sumTo (fun q => bef l q j) i) (fun j => (l.length : Int) - 1 - if j < i then sumTo (fun k => bef l j k) l.length else 0)) l (l.length : Int) (i : Int) = some (ranksI l, 0) := by
 intro m
 induction m with
 | zero =>
  intro i K h hK
  obtain ⟨K, rfl⟩ : ∃ q, K = q + 1 := ⟨K - 1, by omega⟩
  obtain rfl : i = l.length := by omega
  rw [clock_Ranks.l1, if_neg (by omega)]
  congr 2
  unfold ranksI mkL
  apply List.map_congr_left
  intro j hj
  dsimp only
  rw [if_pos (List.mem_range.1 hj)]
 | succ m ih =>
  intro i K h hK
  obtain ⟨K, rfl⟩ : ∃ q, K = q + 1 := ⟨K - 1, by omega⟩
  have hi : i < l.length := by omega
  rw [clock_Ranks.l1, if_pos (by omega), if_pos (by omega), if_pos (by omega)]
  have h2 := ranks_l2 hl i hi (R := some (ranksI l, 0)) (B := m * 200 + 2) (fun K hK => by
   rw [wrap_id (by omega) (by omega), show ((i : Int) + 1) = ((i + 1 : Nat) : Int) by omega, ← ih (i + 1) K (by omega) hK]
   congr 1
   apply mkL_congr (fun _ => rfl)
   intro j
   by_cases e : j ≤ i
   ·rw [if_pos e, if_pos (by omega)]
   ·rw [if_neg e, if_neg (by omega)]) l.length 0 K (by omega) (by omega)
  rw [← h2]
  congr 1
  apply mkL_congr
  ·intro j
   rw [if_neg (Nat.not_lt_zero j), Int.add_zero]
  ·intro j
   by_cases e : j < i
   ·rw [if_pos e, if_pos e]
   ·rw [if_neg e, if_neg e]
    by_cases e2 : j = i
    ·rw [if_pos e2]
     rfl
    ·rw [if_neg e2]
theorem ranks_l0 : ∀ (m i K : Nat), i + m = l.length → m + l.length * 200 + 4 ≤ K → clock_Ranks.l0 K l (mkL l.length (fun _ => 0) (fun j => if j < i then (l.length : Int) - 1 else 0)) (l.length : Int) (i : Int) = some (ranksI l, 0) := by
 intro m
 induction m with
 | zero =>
  intro i K h hK
  obtain ⟨K, rfl⟩ : ∃ q, K = q + 1 := ⟨K - 1, by omega⟩
  obtain rfl : i = l.length := by omega
  rw [clock_Ranks.l0, if_neg (by omega), ← ranks_l1 hl l.length 0 K (by omega) (by omega)]
  congr 1
  unfold mkL
  apply List.map_congr_left
  intro j hj
  dsimp only
  rw [if_pos (List.mem_range.1 hj), if_neg (Nat.not_lt_zero j), Int.sub_zero]
  rfl
 | succ m ih =>
  intro i K h hK
  obtain ⟨K, rfl⟩ : ∃ q, K = q + 1 := ⟨K - 1, by omega⟩
  have hi : i < l.length := by omega
  rw [clock_Ranks.l0, if_pos (by omega), if_pos (by omega), mkL_len, if_pos (by omega), mkL_rd hi, Int.toNat_natCast, wrap_id (n := (l.length : Int) - 1) (by omega) (by omega), wrap_id (n := (i : Int) + 1) (by omega) (by omega)]
  dsimp only
  rw [mkL_set (F' := fun _ => 0) (G' := fun j => if j < i + 1 then (l.length : Int) - 1 else 0) hi (fun j => by split <;> rfl) (fun j => by
   by_cases e : j = i
   ·rw [if_pos e, if_pos (by omega)]
   ·rw [if_neg e]
    by_cases e2 : j < i
    ·rw [if_pos e2, if_pos (by omega)]
    ·rw [if_neg e2, if_neg (by omega)]), show ((i : Int) + 1) = ((i + 1 : Nat) : Int) by omega]
  exact ih (i + 1) K (by omega) (by omega)
end
theorem ranks_eq (l : List S35) {K : Nat} (hK : 30000 ≤ K) : clock_Ranks.f K l = some (if manyE l = 0 then (ranksI l, 0) else ([], manyE l)) := by
 have hm : clock_checkMany.f l = some (manyE l) := by
  unfold clock_checkMany.f manyE
  by_cases h : l.length > 128
  ·rw [if_pos (by omega), if_pos h]
  ·rw [if_neg (by omega), if_neg h]
   rfl
 unfold clock_Ranks.f
 rw [hm, Option.bind_some]
 by_cases h0 : manyE l = 0
 ·have hl : l.length ≤ 128 := by
   apply Classical.byContradiction
   intro h
   unfold manyE at h0
   rw [if_pos (by omega)] at h0
   cases h0
  rw [if_pos h0, if_pos h0, if_pos (by omega), Int.toNat_natCast, if_pos (by omega), ← ranks_l0 hl l.length 0 K (by omega) (by omega)]
  congr 1
  unfold mkL
  have hz : (fun (j : Nat) => (⟨(fun _ => 0) j, (fun j => if j < 0 then (l.length : Int) - 1 else 0) j⟩ : S81)) = fun _ => z81 := by
   funext j
   dsimp only
   rw [if_neg (Nat.not_lt_zero j)]
   rfl
  rw [hz, List.map_const', List.length_range]
 ·rw [if_neg h0, if_neg h0]
end Go.Proofs.Ytcjdhajdoikojaa.Clk
end
section
namespace Go.Proofs.Ytcjdhajdoikojaa.Pure
open Go.RowKit Go.Proofs.Ytcjdhajdoikojaa.Pr
set_option maxRecDepth 100000 in
theorem works : isobathlaw05_Works.f = some true := by kernel_rfl
end Go.Proofs.Ytcjdhajdoikojaa.Pure
end
section
/- Whatever the times of events in their spans are, the answers, the ranks and the common part agree with them: the pure statement about what the program computes. -/
namespace Go.Proofs.Ytcjdhajdoikojaa.Pure
open Go.RowKit Go.Proofs.YtcjdhajdoikojaaW.PrintWords Go.Proofs.YtcjdhajdoikojaaW.PrintLast Go.Proofs.YtcjdhajdoikojaaW.PrintMore Go.Proofs.Ytcjdhajdoikojaa.Pr Go.Proofs.Ytcjdhajdoikojaa.Good Go.Proofs.Ytcjdhajdoikojaa.Clk
namespace Order
theorem rd35_lt {l : List S35} {i : Nat} (h : i < l.length) : rd_T35 l (i : Int) = l[i] := by
 unfold rd_T35
 rw [List.getD_eq_getElem?_getD, Int.toNat_natCast, List.getElem?_eq_getElem h]
 rfl
theorem rd_old {t : List Int} {j : Nat} {v : Int} (h : j < t.length) : rd (t ++ [v]) (j : Int) = rd t (j : Int) := by
 unfold rd
 rw [List.getD_eq_getElem?_getD, List.getD_eq_getElem?_getD, Int.toNat_natCast, List.getElem?_append_left h]
theorem rd_new {t : List Int} {v : Int} : rd (t ++ [v]) (t.length : Int) = v := by
 unfold rd
 rw [List.getD_eq_getElem?_getD, Int.toNat_natCast, List.getElem?_append_right (Nat.le_refl _), Nat.sub_self]
 rfl
theorem rd35_old {t : List S35} {j : Nat} {v : S35} (h : j < t.length) : rd_T35 (t ++ [v]) (j : Int) = rd_T35 t (j : Int) := by
 unfold rd_T35
 rw [List.getD_eq_getElem?_getD, List.getD_eq_getElem?_getD, Int.toNat_natCast, List.getElem?_append_left h]
theorem rd35_new {t : List S35} {v : S35} : rd_T35 (t ++ [v]) (t.length : Int) = v := by
 unfold rd_T35
 rw [List.getD_eq_getElem?_getD, Int.toNat_natCast, List.getElem?_append_right (Nat.le_refl _), Nat.sub_self]
 rfl
theorem sumTo_le {f g : Nat → Int} : ∀ {n : Nat}, (∀ q, q < n → f q ≤ g q) → sumTo f n ≤ sumTo g n
 | 0, _ => Int.le_refl _
 | n + 1, h => by
  have := sumTo_le (n := n) (fun q hq => h q (by omega))
  have := h n (by omega)
  unfold sumTo
  omega
theorem sumTo_three {f g e : Nat → Int} : ∀ {n : Nat}, (∀ q, q < n → f q + g q + e q ≤ 1) → sumTo f n + sumTo g n + sumTo e n ≤ (n : Int)
 | 0, _ => by unfold sumTo; omega
 | n + 1, h => by
  have := sumTo_three (n := n) (fun q hq => h q (by omega))
  have := h n (by omega)
  unfold sumTo
  omega
/-- Spans whose times are known: each lies in its span; and the spans are sound. -/
def OK (s : List S35) (t : List Int) : Prop := t.length = s.length ∧ (∀ j : Nat, j < s.length → (rd_T35 s (j : Int)).f0 ≤ rd t (j : Int) ∧ rd t (j : Int) ≤ (rd_T35 s (j : Int)).f1)
def lessF (t : List Int) (i : Nat) (q : Nat) : Int := if rd t (q : Int) < rd t (i : Int) then 1 else 0
def eqF (t : List Int) (i : Nat) (q : Nat) : Int := if rd t (q : Int) = rd t (i : Int) then 1 else 0
section
variable {s : List S35} {t : List Int} (hO : OK s t) (hl : s.length ≤ 20)
include hO
theorem less_lo (i : Nat) (hi : i < s.length) : sumTo (fun q => bef s q i) s.length ≤ sumTo (lessF t i) s.length := by
 apply sumTo_le
 intro q hq
 have h1 := hO.2 q hq
 have h2 := hO.2 i hi
 unfold bef lessF
 by_cases h : (rd_T35 s (q : Int)).f1 < (rd_T35 s (i : Int)).f0
 ·rw [if_pos h, if_pos (by omega)]
  omega
 ·rw [if_neg h]
  split <;> omega
theorem less_hi (i : Nat) (hi : i < s.length) : sumTo (lessF t i) s.length + sumTo (eqF t i) s.length + sumTo (fun q => bef s i q) s.length ≤ (s.length : Int) := by
 apply sumTo_three
 intro q hq
 have h1 := hO.2 q hq
 have h2 := hO.2 i hi
 unfold bef lessF eqF
 by_cases h : (rd_T35 s (i : Int)).f1 < (rd_T35 s (q : Int)).f0
 ·rw [if_pos h, if_neg (by omega), if_neg (by omega)]
  omega
 ·rw [if_neg h]
  by_cases h3 : rd t (q : Int) < rd t (i : Int)
  ·rw [if_pos h3, if_neg (by omega)]
   omega
  ·rw [if_neg h3]
   split <;> omega
omit hO in
theorem less_01 (i q : Nat) : 0 ≤ lessF t i q ∧ lessF t i q ≤ 1 := by unfold lessF; split <;> omega
omit hO in
theorem eq_01 (i q : Nat) : 0 ≤ eqF t i q ∧ eqF t i q ≤ 1 := by unfold eqF; split <;> omega
theorem no_bad (i k : Nat) (hi : i < s.length) (hk : k < s.length) : BeforeI (rd_T35 s (k : Int)) (rd_T35 s (i : Int)) = (beforeI (rd_T35 s (k : Int)) (rd_T35 s (i : Int)), 0) := by
 have h1 := hO.2 k hk
 have h2 := hO.2 i hi
 have b1 : badS (rd_T35 s (k : Int)) = false := decide_eq_false (by omega)
 have b2 : badS (rd_T35 s (i : Int)) = false := decide_eq_false (by omega)
 have e : spansE [rd_T35 s (k : Int), rd_T35 s (i : Int)] = 0 := by
  unfold spansE
  rw [List.any_cons, List.any_cons, b1, b2]
  rfl
 unfold BeforeI
 rw [if_neg (by rw [e]; decide)]
include hl
theorem order_l2 (i : Nat) (hi : i < s.length) {e c0 c1 : Int} (hcom : e = 0 → ∀ j : Nat, j < s.length → (rd_T35 s (j : Int)).f0 ≤ c0 ∧ c1 ≤ (rd_T35 s (j : Int)).f1) {B : Nat}
  (hR : ∀ K, B ≤ K → isobathlaw05_ClockOrder.l1 K s t (ranksI s) e ((i + 1 : Nat) : Int) c0 c1 = some true) :
  ∀ (m k K : Nat), k + m = s.length → B + 2 * m + 2 ≤ K → isobathlaw05_ClockOrder.l2 K s t (ranksI s) e (i : Int) (sumTo (lessF t i) k) (sumTo (eqF t i) k) (k : Int) c0 c1 = some true := by
 have ht := hO.1
 intro m
 induction m with
 | zero =>
  intro k K h hK
  obtain ⟨K, rfl⟩ : ∃ q, K = q + 2 := ⟨K - 2, by omega⟩
  obtain rfl : k = s.length := by omega
  have hin : (rd_T35 s (i : Int)).f0 ≤ c0 → c1 ≤ (rd_T35 s (i : Int)).f1 → isobathlaw05_inside.f c0 c1 (rd_T35 s (i : Int)).f0 (rd_T35 s (i : Int)).f1 = some true := fun a b => by
   unfold isobathlaw05_inside.f
   rw [if_pos a, decide_eq_true b]
  have hj : isobathlaw05_ClockOrder.j5 (K + 1) s t (ranksI s) e (i : Int) false c0 c1 = some true := by
   rw [isobathlaw05_ClockOrder.j5, if_neg (by decide), wrap_id (n := (i : Int) + 1) (by omega) (by omega), show ((i : Int) + 1) = ((i + 1 : Nat) : Int) by omega, hR K (by omega)]
   by_cases he : e = 0
   ·have := hcom he i hi
    rw [if_pos he, if_pos (by omega), if_pos (by omega), hin this.1 this.2, Option.bind_some, if_pos rfl]
   ·rw [if_neg he]
  have a1 := less_lo hO i hi
  have a2 := less_hi hO i hi
  rw [isobathlaw05_ClockOrder.l2, if_neg (by omega)]
  by_cases h1 : sumTo (eqF t i) s.length = 1
  ·unfold ranksI
   rw [if_pos h1, if_pos (by omega), mkL_len, if_pos (by omega), mkL_rd hi]
   dsimp only
   rw [if_neg (by omega), decide_eq_false (by omega)]
   exact hj
  ·rw [if_neg h1]
   exact hj
 | succ m ih =>
  intro k K h hK
  obtain ⟨K, rfl⟩ : ∃ q, K = q + 2 := ⟨K - 2, by omega⟩
  have hk : k < s.length := by omega
  have h1 := hO.2 k hk
  have h2 := hO.2 i hi
  have s1 : 0 ≤ sumTo (lessF t i) k ∧ sumTo (lessF t i) k ≤ (k : Int) := sumTo_01 (fun q => less_01 i q) k
  have s2 : 0 ≤ sumTo (eqF t i) k ∧ sumTo (eqF t i) k ≤ (k : Int) := sumTo_01 (fun q => eq_01 i q) k
  have e1 : sumTo (lessF t i) (k + 1) = sumTo (lessF t i) k + lessF t i k := rfl
  have e2 : sumTo (eqF t i) (k + 1) = sumTo (eqF t i) k + eqF t i k := rfl
  have hh := ih (k + 1) K (by omega) (by omega)
  rw [e1, e2] at hh
  have hj : isobathlaw05_ClockOrder.j4 (K + 1) s t (ranksI s) e (i : Int) (sumTo (lessF t i) k) (sumTo (eqF t i) k) (k : Int) false c0 c1 = some true := by
   rw [isobathlaw05_ClockOrder.j4, if_neg (by decide), if_pos (by omega), if_pos (by omega), if_pos (by omega), if_pos (by omega), wrap_id (n := (k : Int) + 1) (by omega) (by omega), show ((k : Int) + 1) = ((k + 1 : Nat) : Int) by omega, wrap_id (n := sumTo (lessF t i) k + 1) (by omega) (by omega), wrap_id (n := sumTo (eqF t i) k + 1) (by omega) (by omega)]
   unfold lessF eqF at hh
   unfold lessF eqF
   by_cases h3 : rd t (k : Int) < rd t (i : Int)
   ·rw [if_pos h3] at hh ⊢
    rw [if_neg (show ¬ rd t (k : Int) = rd t (i : Int) by omega), Int.add_zero] at hh
    exact hh
   ·rw [if_neg h3, Int.add_zero] at hh
    rw [if_neg h3]
    by_cases h4 : rd t (k : Int) = rd t (i : Int)
    ·rw [if_pos h4] at hh ⊢
     exact hh
    ·rw [if_neg h4, Int.add_zero] at hh
     rw [if_neg h4]
     exact hh
  have eB : clock_Before.f (rd_T35 s (k : Int)).f0 (rd_T35 s (k : Int)).f1 (rd_T35 s (i : Int)).f0 (rd_T35 s (i : Int)).f1 = some (beforeI (rd_T35 s (k : Int)) (rd_T35 s (i : Int)), 0) := by
   have e : clock_Before.f (rd_T35 s (k : Int)).f0 (rd_T35 s (k : Int)).f1 (rd_T35 s (i : Int)).f0 (rd_T35 s (i : Int)).f1 = some ((BeforeI (rd_T35 s (k : Int)) (rd_T35 s (i : Int))).1, (BeforeI (rd_T35 s (k : Int)) (rd_T35 s (i : Int))).2) := rfl
   rw [e, no_bad hO i k hi hk]
  rw [isobathlaw05_ClockOrder.l2, if_pos (by omega), if_pos (by omega), if_pos (by omega), if_pos (by omega), eB, Option.bind_some]
  dsimp only
  rw [if_pos rfl]
  unfold beforeI
  by_cases h3 : (rd_T35 s (k : Int)).f1 < (rd_T35 s (i : Int)).f0
  ·rw [if_pos h3, if_pos rfl, if_pos (by omega), if_pos (by omega), if_neg (by omega), if_neg (by decide), if_neg (by decide)]
   exact hj
  ·rw [if_neg h3]
   by_cases h4 : (rd_T35 s (k : Int)).f0 ≥ (rd_T35 s (i : Int)).f1
   ·rw [if_pos h4, if_neg (by decide), if_pos rfl, if_pos (by omega), if_pos (by omega), if_neg (by omega), if_neg (by decide)]
    exact hj
   ·rw [if_neg h4, if_neg (by decide), if_neg (by decide), if_neg (by decide)]
    exact hj
theorem order_l1 {e c0 c1 : Int} (hcom : e = 0 → ∀ j : Nat, j < s.length → (rd_T35 s (j : Int)).f0 ≤ c0 ∧ c1 ≤ (rd_T35 s (j : Int)).f1) : ∀ (m i K : Nat), i + m = s.length → m * 50 + 2 ≤ K → isobathlaw05_ClockOrder.l1 K s t (ranksI s) e (i : Int) c0 c1 = some true := by
 intro m
 induction m with
 | zero =>
  intro i K h hK
  obtain ⟨K, rfl⟩ : ∃ q, K = q + 1 := ⟨K - 1, by omega⟩
  rw [isobathlaw05_ClockOrder.l1, if_neg (by omega), works]
  rfl
 | succ m ih =>
  intro i K h hK
  obtain ⟨K, rfl⟩ : ∃ q, K = q + 1 := ⟨K - 1, by omega⟩
  rw [isobathlaw05_ClockOrder.l1, if_pos (by omega)]
  exact order_l2 hO hl i (by omega) hcom (B := m * 50 + 2) (fun K hK => ih (i + 1) K (by omega) hK) s.length 0 K (by omega) (by omega)
end
theorem meet_in (s : List S35) : ∀ a ∈ s, a.f0 ≤ (meetF s).1 ∧ (meetF s).2 ≤ a.f1 := by
 have h : ∀ (l : List S35) (o : Int × Int), (o.1 ≤ (l.foldl (fun o a => (mx o.1 a.f0, mn o.2 a.f1)) o).1 ∧ (l.foldl (fun o a => (mx o.1 a.f0, mn o.2 a.f1)) o).2 ≤ o.2) ∧ ∀ a ∈ l, a.f0 ≤ (l.foldl (fun o a => (mx o.1 a.f0, mn o.2 a.f1)) o).1 ∧ (l.foldl (fun o a => (mx o.1 a.f0, mn o.2 a.f1)) o).2 ≤ a.f1 := by
  intro l
  induction l with
  | nil => exact fun o => ⟨⟨Int.le_refl _, Int.le_refl _⟩, fun a h => by cases h⟩
  | cons b l ih =>
   intro o
   obtain ⟨⟨i1, i2⟩, i3⟩ := ih (mx o.1 b.f0, mn o.2 b.f1)
   rw [List.foldl_cons]
   dsimp only at i1 i2
   have j1 := mx_max o.1 b.f0
   have j2 := mn_min o.2 b.f1
   refine ⟨⟨by omega, by omega⟩, fun a ha => ?_⟩
   rcases List.mem_cons.1 ha with rfl | ha
   ·exact ⟨by omega, by omega⟩
   ·exact i3 a ha
 exact (h s _).2
theorem order_end {s : List S35} {t : List Int} (hO : OK s t) (hl : s.length ≤ 20) {K : Nat} (hK : 31000 ≤ K) : ((clock_Ranks.f K s).bind fun bt648 => ((clock_Common.f s).bind fun bt652 => (if bt648.2 = 0 then (if (bt648.1.length : Int) = (s.length : Int) then (if bt652.2.2 = 0 then (isobathlaw05_ClockOrder.j1 K s t bt648.1 bt652.2.2 (decide (bt652.1 > bt652.2.1)) bt652.1 bt652.2.1) else (if bt652.2.2 = 5 then (isobathlaw05_ClockOrder.j1 K s t bt648.1 bt652.2.2 false bt652.1 bt652.2.1) else (isobathlaw05_ClockOrder.j1 K s t bt648.1 bt652.2.2 true bt652.1 bt652.2.1))) else (isobathlaw05_ClockOrder.j1 K s t bt648.1 bt652.2.2 true bt652.1 bt652.2.1)) else (isobathlaw05_ClockOrder.j1 K s t bt648.1 bt652.2.2 true bt652.1 bt652.2.1)))) = some true := by
 have hb : s.any badS = false := by
  rw [List.any_eq_false]
  intro a ha
  obtain ⟨j, hj, rfl⟩ := List.mem_iff_getElem.1 ha
  have := hO.2 j hj
  rw [rd35_lt hj] at this
  rw [show badS s[j] = false from decide_eq_false (by omega)]
  decide
 have hm : manyE s = 0 := by
  unfold manyE spansE
  rw [if_neg (by omega), hb]
  rfl
 have eC : clock_Common.f s = some ((commonV s).1, (commonV s).2, commonE s) := rfl
 have hl1 : ∀ K', 30000 ≤ K' → ∀ e c0 c1 : Int, (e = 0 → ∀ j : Nat, j < s.length → (rd_T35 s (j : Int)).f0 ≤ c0 ∧ c1 ≤ (rd_T35 s (j : Int)).f1) → isobathlaw05_ClockOrder.j1 K' s t (ranksI s) e false c0 c1 = some true := fun K' h e c0 c1 hc => by
  obtain ⟨K', rfl⟩ : ∃ q, K' = q + 1 := ⟨K' - 1, by omega⟩
  rw [isobathlaw05_ClockOrder.j1, if_neg (by decide)]
  exact order_l1 hO hl hc s.length 0 K' (by omega) (by omega)
 rw [ranks_eq s (by omega), if_pos hm, Option.bind_some, eC, Option.bind_some]
 dsimp only
 rw [if_pos rfl, if_pos (by unfold ranksI; rw [mkL_len])]
 by_cases hc : (meetF s).1 ≤ (meetF s).2 ∧ s.length ≠ 0
 ·have e0 : commonE s = 0 := by
   unfold commonE
   rw [if_neg (by rw [hm]; decide), if_pos hc]
  have ev : commonV s = meetF s := by
   unfold commonV
   rw [if_pos e0]
  rw [if_pos e0, ev, decide_eq_false (by omega)]
  exact hl1 K (by omega) _ _ _ (fun _ j hj => by
   rw [rd35_lt hj]
   exact meet_in s _ (List.getElem_mem hj))
 ·have e0 : commonE s = 5 := by
   unfold commonE
   rw [if_neg (by rw [hm]; decide), if_neg hc]
  rw [if_neg (by rw [e0]; decide), if_pos e0]
  exact hl1 K (by omega) _ _ _ (fun h => by rw [e0] at h; cases h)
theorem part_in {a d p : Int} (h0 : 0 ≤ a) (h1 : a ≤ 65535) (h2 : 0 ≤ d) (h3 : d ≤ 65535) (h4 : 0 ≤ p) (h5 : p ≤ 65535) : ∃ v, isobathlaw01_Part.f (wrap64 a) (wrap64 ((wrap64 a) + (wrap64 d))) p = some v ∧ a ≤ v ∧ v ≤ a + d := by
 unfold isobathlaw01_Part.f
 rw [wrap_id (n := a) (by omega) (by omega), wrap_id (n := d) (by omega) (by omega), wrap_id (n := a + d) (by omega) (by omega), wrap_id (n := a + d - a) (by omega) (by omega), wrap_id (n := p) (by omega) (by omega), show a + d - a = d by omega]
 have m0 := Int.mul_nonneg h2 h4
 have m1 := Int.mul_le_mul_of_nonneg_left h5 h2
 rw [wrap_id (n := d * p) (by omega) (by omega), Int.tdiv_eq_ediv_of_nonneg m0]
 generalize d * p = x at *
 rw [wrap_id (n := x / 65535) (by omega) (by omega), wrap_id (by omega) (by omega)]
 exact ⟨_, rfl, by omega, by omega⟩
theorem wf_u16 {x : Int} (h : (Lit.int .u16 x).wf = true) : 0 ≤ x ∧ x ≤ 65535 := by
 unfold Lit.wf at h
 simp only [Bool.and_eq_true, decide_eq_true_eq] at h
 exact ⟨h.1, h.2⟩
theorem rd_u16 {p : List Int} (hp : ∀ y ∈ p, (Lit.int .u16 y).wf = true) (i : Nat) (hi : i < p.length) : 0 ≤ rd p (i : Int) ∧ rd p (i : Int) ≤ 65535 := by
 unfold rd
 rw [List.getD_eq_getElem?_getD, Int.toNat_natCast, List.getElem?_eq_getElem hi]
 exact wf_u16 (hp _ (List.getElem_mem hi))
theorem rd86 {l : List S86} (hl : ∀ y ∈ l, W86 y) (i : Nat) (hi : i < l.length) : (0 ≤ (rd_T86 l (i : Int)).f0 ∧ (rd_T86 l (i : Int)).f0 ≤ 65535) ∧ (0 ≤ (rd_T86 l (i : Int)).f1 ∧ (rd_T86 l (i : Int)).f1 ≤ 65535) := by
 unfold rd_T86
 rw [List.getD_eq_getElem?_getD, Int.toNat_natCast, List.getElem?_eq_getElem hi]
 have h := hl _ (List.getElem_mem hi)
 exact ⟨wf_u16 h.1, wf_u16 h.2⟩
theorem order_l0 {l : List S86} {p : List Int} (hl : ∀ y ∈ l, W86 y) (hp : ∀ y ∈ p, (Lit.int .u16 y).wf = true) (hn : l.length ≤ 20) : ∀ (m i K : Nat) (s : List S35) (t : List Int), i + m = l.length → m + 31001 ≤ K → s.length = i → OK s t → isobathlaw05_ClockOrder.l0 K l p s t (i : Int) = some true := by
 intro m
 induction m with
 | zero =>
  intro i K s t h hK hs hO
  obtain ⟨K, rfl⟩ : ∃ q, K = q + 1 := ⟨K - 1, by omega⟩
  rw [isobathlaw05_ClockOrder.l0, if_neg (by omega)]
  exact order_end hO (by omega) (by omega)
 | succ m ih =>
  intro i K s t h hK hs hO
  obtain ⟨K, rfl⟩ : ∃ q, K = q + 1 := ⟨K - 1, by omega⟩
  have hx := rd86 hl i (by omega)
  have ht := hO.1
  rw [isobathlaw05_ClockOrder.l0, if_pos (by omega), if_pos (by omega), wrap_id (n := (i : Int) + 1) (by omega) (by omega), show ((i : Int) + 1) = ((i + 1 : Nat) : Int) by omega]
  generalize rd_T86 l (i : Int) = x at *
  obtain ⟨a, d⟩ := x
  dsimp only at hx ⊢
  have step : ∀ q : Int, 0 ≤ q → q ≤ 65535 → (if s.length < 8796093022208 then ((isobathlaw01_Part.f (wrap64 a) (wrap64 ((wrap64 a) + (wrap64 d))) q).bind fun t637 => (if t.length < 17592186044416 then (isobathlaw05_ClockOrder.l0 K l p (s ++ [(⟨wrap64 a, wrap64 ((wrap64 a) + (wrap64 d))⟩ : S35)]) (t ++ [t637]) ((i + 1 : Nat) : Int)) else (none))) else (none)) = some true := by
   intro q q0 q1
   obtain ⟨v, hv, v0, v1⟩ := part_in hx.1.1 hx.1.2 hx.2.1 hx.2.2 q0 q1
   rw [if_pos (by omega), hv, Option.bind_some, if_pos (by omega), wrap_id (n := a) (by omega) (by omega), wrap_id (n := d) (by omega) (by omega), wrap_id (n := a + d) (by omega) (by omega)]
   refine ih (i + 1) K _ _ (by omega) (by omega) (by rw [List.length_append, hs]; rfl) ⟨by rw [List.length_append, List.length_append, ht]; rfl, fun j hj => ?_⟩
   rw [List.length_append, List.length_singleton] at hj
   by_cases hjs : j < s.length
   ·rw [rd35_old hjs, rd_old (by omega)]
    exact hO.2 j hjs
   ·obtain rfl : j = s.length := by omega
    rw [rd35_new, ← ht, rd_new]
    exact ⟨v0, v1⟩
  by_cases hq : i < p.length
  ·rw [if_pos (by omega)]
   have := rd_u16 hp i hq
   exact step _ this.1 this.2
  ·rw [if_neg (by omega)]
   exact step 0 (by decide) (by decide)
end Order
open Order
theorem ClockOrder : ∀ (x0 : (List S86)) (x1 : (List Int)), ((∀ y ∈ x0, W86 y) ∧ x0.length * Try.prog.bytesOf 86 ≤ reachBytes) → ((∀ y ∈ x1, (Lit.int .u16 y).wf = true) ∧ x1.length * Try.prog.bytesOf 47 ≤ reachBytes) → ∃ k, isobathlaw05_ClockOrder.f k x0 x1 = some true := by
 intro l p hl hp
 refine ⟨40000, ?_⟩
 unfold isobathlaw05_ClockOrder.f
 by_cases h1 : (l.length : Int) > 20
 ·rw [if_pos h1, works]
  rfl
 ·rw [if_neg h1]
  exact order_l0 hl.1 hp.1 (by omega) l.length 0 40000 [] [] (by omega) (by omega) rfl ⟨rfl, fun j hj => by cases hj⟩
end Go.Proofs.Ytcjdhajdoikojaa.Pure
end
