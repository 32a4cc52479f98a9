/- Part 7 of the proof of ClockMore: what the functions compute. No condition. -/
import Derived.SizedLaws
import Derived.ChangeSlices
import Derived.Deep.Slices
import Derived.ChangeArms
import Derived.DataReads
import Derived.WideShapes
import Derived.KernelRfl
import Derived.Test.YtcjdhajdoikojaaDmClockMore1
import Derived.Test.YtcjdhajdoikojaaDmClockMore5
import Derived.Test.YtcjdhajdoikojaaDmClockMore6
section
-- PRINTED BY print.sh 35421559b90ae4d0a3588c463048766b98c2df88dd9212a6774a882060cdf62d: not written by this session
-- PRINTED WORDS (module Derived/Print/Sized.lean): go-gate-2's, for the rows of laws over slices: an AI agent of Go's test side, Tue Nov 17 2026; no person has read it. Lean checks it.
namespace Go.Proofs.YtcjdhajdoikojaaW.PrintWords
open Go.ChangeShapes Go.WideShapes
end Go.Proofs.YtcjdhajdoikojaaW.PrintWords
end
section
/- What is read of an argument of a law: a datum of a type reads as a value of its kind; its whole numbers are of their kind, and its slices are within the reach. No condition. -/
namespace Go.Proofs.YtcjdhajdoikojaaW.Opens
open Go.RowKit Go.Proofs.YtcjdhajdoikojaaW.PrintWords Go.Deep Go.ChangeShapes Go.WideShapes
set_option linter.unusedVariables false
section
variable {H : Type} {enc : TypeId × Value → H} {P : Program}

/-- A datum of type t reads as a value of the kind K of which G holds. -/
def Opens {α : Type} (enc : TypeId × Value → H) (P : Program) (t : TypeId) (K : Kd α) (G : α → Prop) : Prop :=
  ∀ (w : World) (fuel : Nat) (cs : List Value) (x : DataW H × List MemPlace), DataW.trod enc P w 0 (fun _ => true) true fuel t cs = some x → (DataW.weights P t x.1).all (· ≤ reachBytes) = true → ∃ y, K.K w y cs ∧ G y

theorem Opens.int {t : TypeId} {k : IntKind} (hu : P.underlying t = some (.int k)) : Opens enc P t (Kd.int k) (fun n => (Lit.int k n).wf = true) := by
  intro w fuel cs x h _
  cases fuel with
  | zero => simp [DataW.trod] at h
  | succ n =>
    unfold DataW.trod at h
    rw [hu] at h
    split at h <;> simp_all
    obtain ⟨⟨rfl, hw⟩, _⟩ := h
    rename_i n _ _
    exact ⟨_, rfl, hw⟩
/-- The fields from offset off on. -/
def OpensFs {α : Type} (enc : TypeId × Value → H) (P : Program) (off : Nat) (fs : List Field) (K : Kd α) (G : α → Prop) : Prop :=
  ∀ (w : World) (fuel : Nat) (cs : List Value) (xs : List (DataW H × List MemPlace)), cs.length = off + K.sz → xs.length = fs.length →
    (∀ (i : Nat) (f : Field), fs[i]? = some f → DataW.trod enc P w 0 (fun _ => true) true fuel f.type ((cs.drop f.offset).take (P.cellsOf f.type)) = xs[i]?) →
    (DataW.weightsEach P (fs.map (·.type)) (xs.map (·.1))).all (· ≤ reachBytes) = true → ∃ y, K.K w y (cs.drop off) ∧ G y

theorem OpensFs.one {α : Type} {off : Nat} {f : Field} {K : Kd α} {G : α → Prop} (hoff : f.offset = off) (hsz : P.cellsOf f.type = K.sz) (h : Opens enc P f.type K G) : OpensFs enc P off [f] K G := by
  intro w fuel cs xs hl hx hi hw
  obtain ⟨x, rfl⟩ : ∃ x, xs = [x] := by
    match xs, hx with
    | [x], _ => exact ⟨x, rfl⟩
  have h1 := hi 0 f rfl
  rw [hoff, hsz, List.take_of_length_le (by simp; omega)] at h1
  exact h w fuel _ x h1 (by simpa [DataW.weightsEach] using hw)
theorem OpensFs.cons {α β : Type} {off : Nat} {f : Field} {fs : List Field} {K : Kd α} {G : α → Prop} {K' : Kd β} {G' : β → Prop} (hoff : f.offset = off) (hsz : P.cellsOf f.type = K.sz) (h : Opens enc P f.type K G) (h' : OpensFs enc P (off + K.sz) fs K' G') :
    OpensFs enc P off (f :: fs) (Kd.pair K K') (fun y => G y.1 ∧ G' y.2) := by
  intro w fuel cs xs hl hx hi hw
  obtain ⟨x, xs', rfl⟩ : ∃ x xs', xs = x :: xs' := by
    match xs, hx with
    | x :: xs', _ => exact ⟨x, xs', rfl⟩
  have hl2 : cs.length = off + (K.sz + K'.sz) := hl
  have h1 := hi 0 f rfl
  rw [hoff, hsz] at h1
  simp only [List.map_cons, DataW.weightsEach, List.all_append, Bool.and_eq_true] at hw
  obtain ⟨y, hy, gy⟩ := h w fuel _ x h1 hw.1
  obtain ⟨y', hy', gy'⟩ := h' w fuel cs xs' (by omega) (by simpa using hx) (fun i g hg => by simpa using hi (i + 1) g (by simpa using hg)) hw.2
  refine ⟨(y, y'), ⟨_, _, ?_, hy, hy'⟩, gy, gy'⟩
  rw [← List.drop_drop, List.take_append_drop]
theorem Opens.struct {α β : Type} {t : TypeId} {fs : Array Field} {K : Kd α} {G : α → Prop} {f : β → α} (g : α → β) (hu : P.underlying t = some (.struct fs)) (hsz : P.cellsOf t = K.sz) (hg : ∀ y, f (g y) = y) (h : OpensFs enc P 0 fs.toList K G) :
    Opens enc P t (Kd.iso K f) (fun z => G (f z)) := by
  intro w fuel cs x hx hw
  obtain ⟨xs, n, rfl, rfl, hl, hxl, hi⟩ := DataW.trod_struct hu hx
  obtain ⟨y, hy, gy⟩ := h w n cs xs (by omega) (by simpa using hxl) (fun i f hf => hi i f (by simpa using hf)) (by simpa [DataW.weights, hu] using hw)
  refine ⟨g y, ?_, by show G (f (g y)); rw [hg]; exact gy⟩
  show K.K w (f (g y)) cs
  rw [hg]
  simpa using hy

theorem list_of_lt {α : Type} {Q : Nat → α → Prop} : ∀ (n : Nat), (∀ i, i < n → ∃ y, Q i y) → ∃ ys : List α, ys.length = n ∧ ∀ i y, ys[i]? = some y → Q i y
  | 0, _ => ⟨[], rfl, fun i y h => by simp at h⟩
  | n + 1, h => by
    obtain ⟨ys, hl, hq⟩ := list_of_lt n (fun i hi => h i (by omega))
    obtain ⟨y, hy⟩ := h n (by omega)
    refine ⟨ys ++ [y], by simp [hl], fun i z hz => ?_⟩
    rw [List.getElem?_append] at hz
    split at hz
    · exact hq i z hz
    · rename_i hi
      obtain rfl : i = n := by
        have := (List.getElem?_eq_some_iff.1 hz).1
        simp at this
        omega
      simp [hl] at hz
      exact hz ▸ hy
theorem weightsAll_mem {e : TypeId} : ∀ {ds : List (DataW H)} {d : DataW H}, (DataW.weightsAll P e ds).all (· ≤ reachBytes) = true → d ∈ ds → (DataW.weights P e d).all (· ≤ reachBytes) = true
  | [], _, _, h => by cases h
  | a :: r, d, hw, h => by
    simp only [DataW.weightsAll, List.all_append, Bool.and_eq_true] at hw
    rcases List.mem_cons.1 h with rfl | h
    · exact hw.1
    · exact weightsAll_mem hw.2 h
theorem Opens.slice {α : Type} {t e : TypeId} (e' : Nat) {K : Kd α} {G : α → Prop} (hu : P.underlying t = some (.slice e)) (hsz : P.cellsOf e = K.sz) (h : Opens enc P e K G) :
    Opens enc P t (Kd.slice e' K) (fun ys => (∀ y ∈ ys, G y) ∧ ys.length * P.bytesOf e ≤ reachBytes) := by
  intro w fuel cs x hx hw
  rcases open_slice hu hx with ⟨rfl, rfl⟩ | ⟨a, len, cap, m, n, D, Pl, rfl, hb, hl, hm, hmm, rfl, hi⟩
  · exact ⟨[], ⟨none, 0, rfl, by simp, ⟨rfl, by simp, fun h => by simp at h⟩⟩, by simp, by simp⟩
  · have hmc : m = cap := by simpa using hmm
    subst hmc
    simp only [DataW.weights, hu, List.all_cons, List.all_append, Bool.and_eq_true, decide_eq_true_eq, List.length_map, List.length_range] at hw
    obtain ⟨ys, hyl, hys⟩ := list_of_lt (Q := fun i y => (∃ cs', w.cells? 0 (a.add (i * P.cellsOf e)) (P.cellsOf e) = some cs' ∧ K.K w y cs') ∧ G y) len (fun i hil => by
      obtain ⟨cs', hc, ht⟩ := hi i (by omega)
      obtain ⟨y, hy, gy⟩ := h w n cs' _ ht (weightsAll_mem hw.2.1 (List.mem_map.2 ⟨i, List.mem_range.2 hil, rfl⟩))
      exact ⟨y, ⟨cs', hc, hy⟩, gy⟩)
    refine ⟨ys, ⟨some a, m, by rw [hyl], by omega, hyl.trans hyl.symm |>.trans (by rfl), ?_, fun _ => ⟨a, rfl, fun j p hj => ?_⟩⟩, fun y hy => ?_, ?_⟩
    · unfold maxLen at hm
      omega
    · obtain ⟨⟨cs', hc, hk⟩, _⟩ := hys j p hj
      obtain ⟨_, hcl, hcell⟩ := World.cells?_some hc
      refine ⟨cs', by rw [hcl, hsz], hk, fun i u hu' => ?_⟩
      have hlt := (List.getElem?_eq_some_iff.1 hu').1
      rw [← Go.Deep.add_add, ← hsz, hcell i (by omega), hu']
    · obtain ⟨j, hj⟩ := List.getElem?_of_mem hy
      exact (hys j y hj).2
    · refine Nat.le_trans (Nat.mul_le_mul_right _ (show ys.length ≤ len + (m - len) by omega)) hw.1
/-- An argument of a law. -/
theorem Opens.arg {α : Type} {t : TypeId} {K : Kd α} {G : α → Prop} (h : Opens enc P t K G) {w : World} {v : Value} {d : DataW H} {p : List MemPlace} (ht : DataW.Trod enc P w 0 (fun _ => true) true t v d p)
    {ts : List TypeId} {ds : List (DataW H)} (hsz : (DataW.weightsEach P ts ds).all (· ≤ reachBytes) = true) {j : Nat} (hj : ts[j]? = some t) (hd : ds[j]? = some d) : ∃ y, K.K w y v.cells.toList ∧ G y := by
  obtain ⟨fuel, hf⟩ := ht
  exact h w fuel _ _ hf (List.all_eq_true.2 fun n hn => List.all_eq_true.1 hsz _ (DataW.weights_mem_each hj hd n hn))
end
end Go.Proofs.YtcjdhajdoikojaaW.Opens
end
section
/- What is known of the arguments of the laws. -/
namespace Go.Proofs.Ytcjdhajdoikojaa.Good
open Go.RowKit Go.Proofs.YtcjdhajdoikojaaW.PrintWords Go.Proofs.YtcjdhajdoikojaaW.PrintLast Go.Proofs.YtcjdhajdoikojaaW.PrintMore Go.Proofs.Ytcjdhajdoikojaa.Pr Go.Proofs.YtcjdhajdoikojaaW.Opens
set_option linter.unusedVariables false
def W35 (x : S35) : Prop := (Lit.int .i64 x.f0).wf = true ∧ (Lit.int .i64 x.f1).wf = true
theorem opens35 {H : Type} {enc : TypeId × Value → H} : Opens enc Try.prog 35 k35 W35 := Opens.struct (fun p => ⟨p.1, p.2⟩) Try.underlying35 (by kernel_rfl) (fun _ => rfl) (OpensFs.cons rfl (by kernel_rfl) (Opens.int Try.underlying2) (OpensFs.one rfl (by kernel_rfl) (Opens.int Try.underlying2)))
def W46 (x : S46) : Prop := (Lit.int .i64 x.f0).wf = true ∧ (Lit.int .i64 x.f1).wf = true ∧ (Lit.int .i64 x.f2).wf = true ∧ (Lit.int .i64 x.f3).wf = true ∧ W35 x.f4 ∧ W35 x.f5
theorem opens46 {H : Type} {enc : TypeId × Value → H} : Opens enc Try.prog 46 k46 W46 := Opens.struct (fun p => ⟨p.1, p.2.1, p.2.2.1, p.2.2.2.1, p.2.2.2.2.1, p.2.2.2.2.2⟩) Try.underlying46 (by kernel_rfl) (fun _ => rfl) (OpensFs.cons rfl (by kernel_rfl) (Opens.int Try.underlying2) (OpensFs.cons rfl (by kernel_rfl) (Opens.int Try.underlying2) (OpensFs.cons rfl (by kernel_rfl) (Opens.int Try.underlying2) (OpensFs.cons rfl (by kernel_rfl) (Opens.int Try.underlying2) (OpensFs.cons rfl (by kernel_rfl) opens35 (OpensFs.one rfl (by kernel_rfl) opens35))))))
def W30 (x : S30) : Prop := (Lit.int .i64 x.f0).wf = true ∧ (Lit.int .i64 x.f1).wf = true ∧ ((∀ y ∈ x.f2, W46 y) ∧ x.f2.length * Try.prog.bytesOf 46 ≤ reachBytes)
theorem opens30 {H : Type} {enc : TypeId × Value → H} : Opens enc Try.prog 30 k30 W30 := Opens.struct (fun p => ⟨p.1, p.2.1, p.2.2⟩) Try.underlying30 (by kernel_rfl) (fun _ => rfl) (OpensFs.cons rfl (by kernel_rfl) (Opens.int Try.underlying3) (OpensFs.cons rfl (by kernel_rfl) (Opens.int Try.underlying2) (OpensFs.one rfl (by kernel_rfl) (Opens.slice 46 Try.underlying28 (by kernel_rfl) opens46))))
end Go.Proofs.Ytcjdhajdoikojaa.Good
end
section
/- The arithmetic of clocks: no number leaves its range, so what is computed is what is meant. -/
namespace Go.Proofs.Ytcjdhajdoikojaa.Clk
open Go.RowKit Go.Proofs.YtcjdhajdoikojaaW.PrintWords Go.Proofs.YtcjdhajdoikojaaW.PrintMore Go.Proofs.Ytcjdhajdoikojaa.Pr

theorem wrap_id {n : Int} (h0 : -9223372036854775808 ≤ n) (h1 : n ≤ 9223372036854775807) : wrap64 n = n := by
  unfold wrap64
  omega
theorem mx_max (a b : Int) : mx a b = max a b := by
  unfold mx
  split <;> omega
theorem mn_min (a b : Int) : mn a b = min a b := by
  unfold mn
  split <;> omega
/-- The growth for a difference that is not negative. -/
def gro (rate d : Int) : Int := rate * (d / 1000000000) + (rate * (d % 1000000000) + 999999999) / 1000000000
theorem mul_bound {a b A B : Int} (h0 : 0 ≤ a) (h1 : a ≤ A) (h2 : 0 ≤ b) (h3 : b ≤ B) : 0 ≤ a * b ∧ a * b ≤ A * B :=
  ⟨Int.mul_nonneg h0 h2, Int.mul_le_mul h1 h3 h2 (Int.le_trans h0 h1)⟩
theorem gro_range {rate d : Int} (hr0 : 0 ≤ rate) (hr1 : rate ≤ 1000000) (hd0 : 0 ≤ d) (hd1 : d ≤ 2251799813685248) : 0 ≤ gro rate d ∧ gro rate d ≤ 2251801000000 := by
  unfold gro
  have h1 := mul_bound hr0 hr1 (show 0 ≤ d / 1000000000 by omega) (show d / 1000000000 ≤ 2251799 by omega)
  have h2 := mul_bound hr0 hr1 (show 0 ≤ d % 1000000000 by omega) (show d % 1000000000 ≤ 999999999 by omega)
  generalize rate * (d / 1000000000) = x at *
  generalize rate * (d % 1000000000) = y at *
  omega
theorem growI_eq {rate d : Int} (hr0 : 0 ≤ rate) (hr1 : rate ≤ 1000000) (hd0 : -2251799813685248 ≤ d) (hd1 : d ≤ 2251799813685248) : growI rate d = gro rate (max d (-d)) := by
  unfold growI clock_growth.f
  rw [Option.getD_some, wrap_id (n := -d) (by omega) (by omega), mx_max]
  have hm0 : 0 ≤ max d (-d) := by omega
  have hm1 : max d (-d) ≤ 2251799813685248 := by omega
  generalize max d (-d) = m at *
  have h1 := mul_bound hr0 hr1 (show 0 ≤ m / 1000000000 by omega) (show m / 1000000000 ≤ 2251799 by omega)
  have h2 := mul_bound hr0 hr1 (show 0 ≤ m % 1000000000 by omega) (show m % 1000000000 ≤ 999999999 by omega)
  have e1 : Int.tdiv m 1000000000 = m / 1000000000 := Int.tdiv_eq_ediv_of_nonneg hm0
  have e2 : Int.tmod m 1000000000 = m % 1000000000 := Int.tmod_eq_emod_of_nonneg hm0
  rw [e1, e2, wrap_id (n := m / 1000000000) (by omega) (by omega)]
  unfold gro
  generalize rate * (m / 1000000000) = x at *
  generalize rate * (m % 1000000000) = y at *
  rw [wrap_id (n := x) (by omega) (by omega), wrap_id (n := y) (by omega) (by omega), wrap_id (n := y + 1000000000) (by omega) (by omega), wrap_id (n := y + 1000000000 - 1) (by omega) (by omega)]
  have e3 : Int.tdiv (y + 1000000000 - 1) 1000000000 = (y + 1000000000 - 1) / 1000000000 := Int.tdiv_eq_ediv_of_nonneg (by omega)
  rw [e3, show y + 1000000000 - 1 = y + 999999999 by omega, wrap_id (n := (y + 999999999) / 1000000000) (by omega) (by omega), wrap_id (by omega) (by omega)]

/-- An anchor whose numbers are in their ranges. -/
def VA (a : S105) : Prop := 0 ≤ a.f1 ∧ a.f1 ≤ 1125899906842624 ∧ -1073741824 ≤ a.f0.f0 ∧ a.f0.f0 ≤ a.f0.f1 ∧ a.f0.f1 ≤ 1073741824
theorem okS_iff {lo hi : Int} : okS lo hi = true ↔ lo ≤ hi ∧ -1073741824 ≤ lo ∧ hi ≤ 1073741824 := by
  unfold okS
  simp only [Bool.not_eq_true', Bool.or_eq_false_iff, decide_eq_false_iff_not]
  omega
theorem va_anchor {rate : Int} {x : S46} (h : okE rate x = true) : VA (anchorI rate x) := by
  have hb := okE_back h
  unfold okE at h
  simp only [Bool.and_eq_true, okS_iff] at h
  exact ⟨hb.1, hb.2, h.2.2.1, h.2.1, h.2.2.2⟩
theorem faceE_rate {par rate : Int} {xs : List S46} (h : faceE par rate xs = 0) : -1 ≤ par ∧ 0 ≤ rate ∧ rate ≤ 1000000 := by
  unfold faceE at h
  by_cases hl : xs.length < 1 ∨ xs.length > 64
  · rw [if_pos hl] at h
    cases h
  rw [if_neg hl] at h
  by_cases hp : par < -1 ∨ rate < 0 ∨ rate > 1000000
  · rw [if_pos hp] at h
    cases h
  omega
theorem va_all {par rate : Int} {xs : List S46} (h : faceE par rate xs = 0) : ∀ a ∈ xs.map (anchorI rate), VA a := by
  intro a ha
  obtain ⟨x, hx, rfl⟩ := List.mem_map.1 ha
  exact va_anchor ((faceE_one h).2 x hx)
/-- The difference of two readings, without its sign. -/
def dis (s t : Int) : Int := max (t - s) (-(t - s))
theorem seenI_eq {rate t : Int} {a : S105} (hr0 : 0 ≤ rate) (hr1 : rate ≤ 1000000) (ha : VA a) (ht0 : -1125899906842624 ≤ t) (ht1 : t ≤ 2251799813685248) :
    seenI rate a t = ⟨a.f0.f0 - gro rate (dis a.f1 t), a.f0.f1 + gro rate (dis a.f1 t)⟩ := by
  obtain ⟨h1, h2, h3, h4, h5⟩ := ha
  unfold seenI shiftI
  rw [wrap_id (n := t - a.f1) (by omega) (by omega), growI_eq hr0 hr1 (by omega) (by omega), show max (t - a.f1) (-(t - a.f1)) = dis a.f1 t from rfl]
  have hg := gro_range hr0 hr1 (d := dis a.f1 t) (by unfold dis; omega) (by unfold dis; omega)
  generalize gro rate (dis a.f1 t) = g at *
  rw [Int.add_zero, Int.add_zero, wrap_id (n := a.f0.f0) (by omega) (by omega), wrap_id (n := a.f0.f1) (by omega) (by omega), wrap_id (n := a.f0.f0 - g) (by omega) (by omega), wrap_id (n := a.f0.f1 + g) (by omega) (by omega)]
theorem meetF_two {x y : S35} (h1 : -9223372036854775808 ≤ x.f0) (h2 : x.f1 ≤ 9223372036854775807) : meetF [x, y] = (max x.f0 y.f0, min x.f1 y.f1) := by
  unfold meetF
  simp only [List.foldl_cons, List.foldl_nil, mx_max, mn_min]
  rw [show max (-9223372036854775808) x.f0 = x.f0 by omega, show min (9223372036854775807) x.f1 = x.f1 by omega]
end Go.Proofs.Ytcjdhajdoikojaa.Clk
end
section
/- How the offset of a clock changes with the reading: behind the last exchange it becomes no narrower; halving finds the first reading. -/
namespace Go.Proofs.Ytcjdhajdoikojaa.Clk
open Go.RowKit Go.Proofs.YtcjdhajdoikojaaW.PrintWords Go.Proofs.YtcjdhajdoikojaaW.PrintMore Go.Proofs.Ytcjdhajdoikojaa.Pr

theorem gro_ceil (rate d : Int) : gro rate d = (rate * d + 999999999) / 1000000000 := by
  unfold gro
  have e : rate * d = rate * (d % 1000000000) + 1000000000 * (rate * (d / 1000000000)) := by
    conv => lhs; rw [← Int.emod_add_mul_ediv d 1000000000]
    rw [Int.mul_add, Int.mul_left_comm]
  rw [e]
  generalize rate * (d % 1000000000) = y
  generalize rate * (d / 1000000000) = x
  omega
theorem gro_mono {rate d d' : Int} (hr : 0 ≤ rate) (h : d ≤ d') : gro rate d ≤ gro rate d' := by
  rw [gro_ceil, gro_ceil]
  have := Int.mul_le_mul_of_nonneg_left h hr
  generalize rate * d = x at *
  generalize rate * d' = y at *
  omega
theorem gro_rate {rate rate' d : Int} (hd : 0 ≤ d) (h : rate ≤ rate') : gro rate d ≤ gro rate' d := by
  rw [gro_ceil, gro_ceil]
  have := Int.mul_le_mul_of_nonneg_right h hd
  generalize rate * d = x at *
  generalize rate' * d = y at *
  omega
/-- The common part of spans that are given by their ends. -/
def meetU {α : Type} (lo hi : α → Int) (o : Int × Int) (l : List α) : Int × Int := l.foldl (fun o a => (max o.1 (lo a), min o.2 (hi a))) o
theorem meetU_mono {α : Type} {lo hi lo' hi' : α → Int} : ∀ (l : List α) (o o' : Int × Int), o'.1 ≤ o.1 → o.2 ≤ o'.2 → (∀ a ∈ l, lo' a ≤ lo a ∧ hi a ≤ hi' a) → (meetU lo' hi' o' l).1 ≤ (meetU lo hi o l).1 ∧ (meetU lo hi o l).2 ≤ (meetU lo' hi' o' l).2
  | [], o, o', h1, h2, _ => ⟨h1, h2⟩
  | a :: l, o, o', h1, h2, h => by
    have ha := h a List.mem_cons_self
    exact meetU_mono l _ _ (by dsimp only; omega) (by dsimp only; omega) (fun b hb => h b (List.mem_cons_of_mem _ hb))
/-- The ends of an anchor that is seen at a reading. -/
def loA (rate t : Int) (a : S105) : Int := a.f0.f0 - gro rate (dis a.f1 t)
def hiA (rate t : Int) (a : S105) : Int := a.f0.f1 + gro rate (dis a.f1 t)
def top : Int × Int := (-9223372036854775808, 9223372036854775807)
theorem foldl_meetU {rate t : Int} (hr0 : 0 ≤ rate) (hr1 : rate ≤ 1000000) (ht0 : -1125899906842624 ≤ t) (ht1 : t ≤ 2251799813685248) : ∀ (ys : List S105) (o : Int × Int), (∀ a ∈ ys, VA a) → (ys.map fun a => seenI rate a t).foldl (fun o a => (mx o.1 a.f0, mn o.2 a.f1)) o = meetU (loA rate t) (hiA rate t) o ys
  | [], _, _ => rfl
  | a :: l, o, h => by
    rw [List.map_cons, List.foldl_cons, seenI_eq hr0 hr1 (h a List.mem_cons_self) ht0 ht1, mx_max, mn_min]
    exact foldl_meetU hr0 hr1 ht0 ht1 l _ (fun b hb => h b (List.mem_cons_of_mem _ hb))
theorem atI_eq {rate t : Int} {ys : List S105} (hr0 : 0 ≤ rate) (hr1 : rate ≤ 1000000) (ht0 : -1125899906842624 ≤ t) (ht1 : t ≤ 2251799813685248) (hv : ∀ a ∈ ys, VA a) : atI rate ys t = meetU (loA rate t) (hiA rate t) top ys := foldl_meetU hr0 hr1 ht0 ht1 ys _ hv
end Go.Proofs.Ytcjdhajdoikojaa.Clk
end
section
/- Valid exchanges and their offsets, in clean numbers. -/
namespace Go.Proofs.Ytcjdhajdoikojaa.Clk
open Go.RowKit Go.Proofs.YtcjdhajdoikojaaW.PrintWords Go.Proofs.YtcjdhajdoikojaaW.PrintMore Go.Proofs.Ytcjdhajdoikojaa.Pr

theorem okT_iff {t : Int} : okT t = true ↔ 0 ≤ t ∧ t ≤ 1125899906842624 := by
  unfold okT
  simp only [Bool.and_eq_true, decide_eq_true_eq]
theorem okX_iff {x : S46} : okX x = true ↔ (0 ≤ x.f0 ∧ x.f0 ≤ x.f3 ∧ x.f3 ≤ 1125899906842624) ∧ (0 ≤ x.f1 ∧ x.f1 ≤ x.f2 ∧ x.f2 ≤ 1125899906842624) ∧ (0 ≤ x.f4.f0 ∧ x.f4.f0 ≤ x.f4.f1 ∧ x.f4.f1 ≤ 1073741824) ∧ (0 ≤ x.f5.f0 ∧ x.f5.f0 ≤ x.f5.f1 ∧ x.f5.f1 ≤ 1073741824) := by
  unfold okX
  simp only [Bool.and_eq_true, okT_iff, okS_iff, Bool.not_eq_true', decide_eq_false_iff_not]
  omega
/-- The offset by an exchange, in clean numbers. -/
def offC (rate : Int) (x : S46) : Int × Int :=
  (max (x.f1 - x.f0 - x.f4.f1 - gro rate (x.f3 - x.f0)) (x.f2 - x.f3 + x.f5.f0), min (x.f1 - x.f0 - x.f4.f0 + gro rate (x.f3 - x.f0)) (x.f2 - x.f3 + x.f5.f1))
theorem offsetI_eq {rate : Int} {x : S46} (hr0 : 0 ≤ rate) (hr1 : rate ≤ 1000000) (h : okX x = true) : offsetI x rate = offC rate x := by
  obtain ⟨⟨a1, a2, a3⟩, ⟨b1, b2, b3⟩, ⟨c1, c2, c3⟩, d1, d2, d3⟩ := okX_iff.1 h
  unfold offsetI forthI homeI shiftI offC
  rw [wrap_id (n := x.f3 - x.f0) (by omega) (by omega), growI_eq hr0 hr1 (by omega) (by omega), show max (x.f3 - x.f0) (-(x.f3 - x.f0)) = x.f3 - x.f0 by omega]
  have hg := gro_range hr0 hr1 (d := x.f3 - x.f0) (by omega) (by omega)
  generalize gro rate (x.f3 - x.f0) = g at *
  simp (disch := omega) only [wrap_id]
  rw [meetF_two (by dsimp only; omega) (by dsimp only; omega)]
  dsimp only
  ext
  · dsimp only; omega
  · dsimp only; omega
/-- Which exchanges are valid for a clock of a rate, in clean numbers. -/
theorem okE_iff {rate : Int} {x : S46} (hr0 : 0 ≤ rate) (hr1 : rate ≤ 1000000) : okE rate x = true ↔ okX x = true ∧ okS (offC rate x).1 (offC rate x).2 = true := by
  unfold okE
  simp only [Bool.and_eq_true, decide_eq_true_eq]
  constructor
  · rintro ⟨⟨h1, h2⟩, h3⟩
    rw [offsetI_eq hr0 hr1 h1] at h3
    exact ⟨h1, h3⟩
  · rintro ⟨h1, h3⟩
    rw [offsetI_eq hr0 hr1 h1]
    exact ⟨⟨h1, (okS_iff.1 h3).1⟩, h3⟩
/-- What is known of a valid clock's anchors. -/
theorem anchor_eq {rate : Int} {x : S46} (hr0 : 0 ≤ rate) (hr1 : rate ≤ 1000000) (h : okX x = true) : anchorI rate x = ⟨⟨(offC rate x).1, (offC rate x).2⟩, x.f3⟩ := by
  unfold anchorI
  rw [offsetI_eq hr0 hr1 h]
theorem faceE_all {par rate : Int} {xs : List S46} (h : faceE par rate xs = 0) : ∀ x ∈ xs, okE rate x = true := by
  have hr := faceE_rate h
  have hl := faceE_len h
  have h1 := (faceE_one h).1
  unfold faceE at h
  rw [if_neg (by omega), if_neg (by omega)] at h
  by_cases ha : xs.all (okE rate) = true
  · exact List.all_eq_true.1 ha
  · rw [if_neg ha] at h
    cases h
end Go.Proofs.Ytcjdhajdoikojaa.Clk
end
section
/- The offset of a valid and sound clock, in clean numbers: the common part of what its exchanges say. -/
namespace Go.Proofs.Ytcjdhajdoikojaa.Clk
open Go.RowKit Go.Proofs.YtcjdhajdoikojaaW.PrintWords Go.Proofs.YtcjdhajdoikojaaW.PrintMore Go.Proofs.Ytcjdhajdoikojaa.Pr
theorem meetU_map {α β : Type} (lo hi : β → Int) (f : α → β) : ∀ (l : List α) (o : Int × Int), meetU lo hi o (l.map f) = meetU (fun x => lo (f x)) (fun x => hi (f x)) o l
  | [], _ => rfl
  | _ :: l, _ => meetU_map lo hi f l _
theorem meetU_snoc {α : Type} (lo hi : α → Int) (o : Int × Int) (l : List α) (a : α) : meetU lo hi o (l ++ [a]) = (max (meetU lo hi o l).1 (lo a), min (meetU lo hi o l).2 (hi a)) := by
  unfold meetU
  rw [List.foldl_append]
  rfl
theorem meetU_congr {α : Type} {lo hi lo' hi' : α → Int} : ∀ (l : List α) (o : Int × Int), (∀ a ∈ l, lo a = lo' a ∧ hi a = hi' a) → meetU lo hi o l = meetU lo' hi' o l
  | [], _, _ => rfl
  | a :: l, o, h => by
    have ha := h a List.mem_cons_self
    show meetU lo hi (max o.1 (lo a), min o.2 (hi a)) l = meetU lo' hi' (max o.1 (lo' a), min o.2 (hi' a)) l
    rw [ha.1, ha.2]
    exact meetU_congr l _ (fun b hb => h b (List.mem_cons_of_mem _ hb))
/-- The ends of what an exchange says at a reading. -/
def loX (rate t : Int) (x : S46) : Int := (offC rate x).1 - gro rate (dis x.f3 t)
def hiX (rate t : Int) (x : S46) : Int := (offC rate x).2 + gro rate (dis x.f3 t)
theorem at_meetI {par rate t : Int} {xs : List S46} (hf : faceE par rate xs = 0) (ht0 : -1125899906842624 ≤ t) (ht1 : t ≤ 2251799813685248) : atI rate (xs.map (anchorI rate)) t = meetU (loX rate t) (hiX rate t) top xs := by
  obtain ⟨_, hr0, hr1⟩ := faceE_rate hf
  rw [atI_eq hr0 hr1 ht0 ht1 (va_all hf), meetU_map]
  refine meetU_congr xs _ fun x hx => ?_
  have hE := faceE_all hf x hx
  rw [anchor_eq hr0 hr1 ((okE_iff hr0 hr1).1 hE).1]
  exact ⟨rfl, rfl⟩
theorem atE_sound {par rate t : Int} {xs : List S46} (h : atE par rate xs t = 0) : faceE par rate xs = 0 ∧ (0 ≤ t ∧ t ≤ 1125899906842624) ∧ findCon rate (xs.map (anchorI rate)) = none := by
  have hE : soundE par rate xs (withinI t 0 1125899906842624) = 0 := h
  have hf := soundE_face hE
  unfold soundE at hE
  rw [if_neg (by rw [hf]; decide)] at hE
  by_cases hw : withinI t 0 1125899906842624 = 0
  · rw [if_neg (by rw [hw]; decide)] at hE
    refine ⟨hf, ?_, ?_⟩
    · unfold withinI clock_within.f at hw
      by_cases h1 : t < 0
      · rw [if_pos h1] at hw
        cases hw
      by_cases h2 : t > 1125899906842624
      · rw [if_neg h1, if_pos h2] at hw
        cases hw
      omega
    · cases hc : findCon rate (xs.map (anchorI rate)) with
      | none => rfl
      | some p =>
        rw [hc] at hE
        cases hE
  · rw [if_pos hw] at hE
    exact absurd hE hw
theorem at_meet {par rate t : Int} {xs : List S46} (h : atE par rate xs t = 0) : atV par rate xs t = meetU (loX rate t) (hiX rate t) top xs ∧ (∀ x ∈ xs, okX x = true) ∧ 0 ≤ rate ∧ rate ≤ 1000000 ∧ 0 ≤ t ∧ t ≤ 1125899906842624 := by
  obtain ⟨hf, ht, _⟩ := atE_sound h
  obtain ⟨_, hr0, hr1⟩ := faceE_rate hf
  refine ⟨?_, fun x hx => ((okE_iff hr0 hr1).1 (faceE_all hf x hx)).1, hr0, hr1, ht.1, ht.2⟩
  unfold atV
  rw [if_pos h]
  exact at_meetI hf (by omega) (by omega)
end Go.Proofs.Ytcjdhajdoikojaa.Clk
end
section
namespace Go.Proofs.Ytcjdhajdoikojaa.Pure
open Go.RowKit Go.Proofs.Ytcjdhajdoikojaa.Pr
set_option maxRecDepth 100000 in
theorem works : isobathlaw05_Works.f = some true := by kernel_rfl
end Go.Proofs.Ytcjdhajdoikojaa.Pure
end
section
/- A further exchange narrows the offset, a greater rate and wider bounds widen it: the pure statement about what the program computes. -/
namespace Go.Proofs.Ytcjdhajdoikojaa.Pure
open Go.RowKit Go.Proofs.YtcjdhajdoikojaaW.PrintWords Go.Proofs.YtcjdhajdoikojaaW.PrintLast Go.Proofs.YtcjdhajdoikojaaW.PrintMore Go.Proofs.Ytcjdhajdoikojaa.Pr Go.Proofs.Ytcjdhajdoikojaa.Good Go.Proofs.Ytcjdhajdoikojaa.Clk
namespace More
theorem inside_of {a b c d : Int} (h1 : c ≤ a) (h2 : b ≤ d) : isobathlaw05_inside.f a b c d = some true := by
  unfold isobathlaw05_inside.f
  rw [if_pos h1, decide_eq_true h2]
/-- An exchange with wider bounds. -/
def wide (w : Int) (x : S46) : S46 := ⟨x.f0, x.f1, x.f2, x.f3, ⟨max 0 (x.f4.f0 - w), min 1073741824 (x.f4.f1 + w)⟩, ⟨max 0 (x.f5.f0 - w), min 1073741824 (x.f5.f1 + w)⟩⟩
theorem at_mono {par rate par' rate' t : Int} {xs : List S46} {f : S46 → S46} (h : atE par rate xs t = 0) (h' : atE par' rate' (xs.map f) t = 0)
    (hf : ∀ x ∈ xs, okX x = true → loX rate' t (f x) ≤ loX rate t x ∧ hiX rate t x ≤ hiX rate' t (f x)) : (atV par' rate' (xs.map f) t).1 ≤ (atV par rate xs t).1 ∧ (atV par rate xs t).2 ≤ (atV par' rate' (xs.map f) t).2 := by
  obtain ⟨e, hX, hr0, hr1, ht0, ht1⟩ := at_meet h
  obtain ⟨e', _⟩ := at_meet h'
  rw [e, e', meetU_map]
  exact meetU_mono xs _ _ (Int.le_refl _) (Int.le_refl _) fun x hx => hf x hx (hX x hx)
theorem loop {w : Int} (hw : 0 ≤ w ∧ w ≤ 65535) {xs : List S46} (hl : xs.length ≤ 12) (hX : ∀ x ∈ xs, okX x = true) (t a b par rate : Int) : ∀ (m i K : Nat), i + m = xs.length → m ≤ K →
    isobathlaw05_ClockMore.l0 (K + 1) t w (i : Int) a b par rate ((xs.take i).map (wide w) ++ xs.drop i) = isobathlaw05_ClockMore.l0 (K - m + 1) t w (xs.length : Int) a b par rate (xs.map (wide w)) := by
  intro m
  induction m with
  | zero =>
    intro i K h hK
    obtain rfl : i = xs.length := by omega
    rw [List.drop_length, List.take_length, List.append_nil]
    rfl
  | succ m ih =>
    intro i K h hK
    have hi : i < xs.length := by omega
    have hlen : ((xs.take i).map (wide w) ++ xs.drop i).length = xs.length := by
      rw [List.length_append, List.length_map, List.length_take, List.length_drop]
      omega
    have hrd : rd_T46 ((xs.take i).map (wide w) ++ xs.drop i) (i : Int) = xs[i] := by
      unfold rd_T46
      rw [List.getD_eq_getElem?_getD, Int.toNat_natCast, List.getElem?_append_right (by rw [List.length_map, List.length_take]; omega), List.length_map, List.length_take, List.getElem?_drop, show i + (i - min i xs.length) = i by omega, List.getElem?_eq_getElem hi]
      rfl
    have hset : ∀ z, ((xs.take i).map (wide w) ++ xs.drop i).set i z = (xs.take i).map (wide w) ++ z :: xs.drop (i + 1) := fun z => by
      rw [List.set_append_right _ _ (by rw [List.length_map, List.length_take]; omega), List.length_map, List.length_take, show i - min i xs.length = 0 by omega, List.drop_eq_getElem_cons hi, List.set_cons_zero]
    have hrd2 : ∀ z, rd_T46 ((xs.take i).map (wide w) ++ z :: xs.drop (i + 1)) (i : Int) = z := fun z => by
      unfold rd_T46
      rw [List.getD_eq_getElem?_getD, Int.toNat_natCast, List.getElem?_append_right (by rw [List.length_map, List.length_take]; omega), List.length_map, List.length_take, show i - min i xs.length = 0 by omega]
      rfl
    have hset2 : ∀ y z, ((xs.take i).map (wide w) ++ y :: xs.drop (i + 1)).set i z = (xs.take i).map (wide w) ++ z :: xs.drop (i + 1) := fun y z => by
      rw [List.set_append_right _ _ (by rw [List.length_map, List.length_take]; omega), List.length_map, List.length_take, show i - min i xs.length = 0 by omega, List.set_cons_zero]
    obtain ⟨_, _, ⟨c1, c2, c3⟩, d1, d2, d3⟩ := okX_iff.1 (hX xs[i] (List.getElem_mem hi))
    rw [isobathlaw05_ClockMore.l0, hlen, if_pos (by omega), if_pos (by omega), hrd, Int.toNat_natCast, hset, Option.bind_some, hrd2, hset2]
    dsimp only
    rw [wrap_id (n := w) (by omega) (by omega), wrap_id (n := xs[i].f4.f0 - w) (by omega) (by omega), wrap_id (n := xs[i].f4.f1 + w) (by omega) (by omega), wrap_id (n := xs[i].f5.f0 - w) (by omega) (by omega), wrap_id (n := xs[i].f5.f1 + w) (by omega) (by omega), mx_max, mx_max, mn_min, mn_min, wrap_id (n := (i : Int) + 1) (by omega) (by omega), show ((i : Int) + 1) = ((i + 1 : Nat) : Int) by omega]
    obtain ⟨K, rfl⟩ : ∃ q, K = q + 1 := ⟨K - 1, by omega⟩
    have hh := ih (i + 1) K (by omega) (by omega)
    rw [show K + 1 - (m + 1) = K - m by omega, ← hh, List.take_add_one, List.getElem?_eq_getElem hi, List.map_append, List.append_assoc]
    rfl
end More
open More
theorem ClockMore : ∀ (x0 : S30) (x1 : S46) (x2 : Int) (x3 : Int) (x4 : Int), W30 x0 → W46 x1 → (Lit.int .i64 x2).wf = true → (Lit.int .u16 x3).wf = true → (Lit.int .u16 x4).wf = true → ∃ k, isobathlaw05_ClockMore.f k (x0.f0) (x0.f1) (x0.f2) (x1.f0) (x1.f1) (x1.f2) (x1.f3) (x1.f4.f0) (x1.f4.f1) (x1.f5.f0) (x1.f5.f1) x2 x3 x4 = some true := by
  intro x0 x t dr w _ _ _ hdr hw
  generalize x0.f0 = par
  generalize x0.f1 = rate
  generalize x0.f2 = xs
  have hdr' : 0 ≤ dr ∧ dr ≤ 65535 := by
    unfold Lit.wf at hdr
    simp only [Bool.and_eq_true, decide_eq_true_eq] at hdr
    exact ⟨hdr.1, hdr.2⟩
  have hw' : 0 ≤ w ∧ w ≤ 65535 := by
    unfold Lit.wf at hw
    simp only [Bool.and_eq_true, decide_eq_true_eq] at hw
    exact ⟨hw.1, hw.2⟩
  refine ⟨40, ?_⟩
  have hT : isobathlaw05_ClockMore.j0 40 t dr w true par rate xs x.f0 x.f1 x.f2 x.f3 x.f4.f0 x.f4.f1 x.f5.f0 x.f5.f1 = some true := by
    rw [isobathlaw05_ClockMore.j0, if_pos rfl, works]
    rfl
  unfold isobathlaw05_ClockMore.f
  obtain ⟨lg, hlg⟩ : ∃ b, isobathlaw05_long.f par rate xs = some b := by
    unfold isobathlaw05_long.f
    split <;> (try split) <;> exact ⟨_, rfl⟩
  rw [hlg, Option.bind_some]
  by_cases h1 : lg = true
  · rw [if_pos h1, hT]
  rw [if_neg h1]
  by_cases h2 : (xs.length : Int) > 12
  · rw [decide_eq_true h2, hT]
  have hA : ∀ p r l, clock_At.f p r l t = some ((atV p r l t).1, (atV p r l t).2, atE p r l t) := fun _ _ _ => rfl
  rw [decide_eq_false h2, isobathlaw05_ClockMore.j0, if_neg (by decide), hA, Option.bind_some]
  dsimp only
  by_cases h3 : atE par rate xs t = 0
  · obtain ⟨e, hX, hr0, hr1, ht0, ht1⟩ := at_meet h3
    rw [if_pos h3, Option.bind_some, if_pos (by rw [List.length_nil]; omega), Option.bind_some, Option.bind_some, if_pos (by rw [List.nil_append, List.length_singleton]; omega), List.nil_append, hA, Option.bind_some]
    dsimp only
    have c1 : (if atE par rate (xs ++ [x]) t = 0 then ((isobathlaw05_inside.f (atV par rate (xs ++ [x]) t).1 (atV par rate (xs ++ [x]) t).2 (atV par rate xs t).1 (atV par rate xs t).2).bind fun t288 => (isobathlaw05_ClockMore.j1 39 t dr w (!t288) par rate xs (atV par rate xs t).1 (atV par rate xs t).2)) else (isobathlaw05_ClockMore.j1 39 t dr w false par rate xs (atV par rate xs t).1 (atV par rate xs t).2)) = isobathlaw05_ClockMore.j1 39 t dr w false par rate xs (atV par rate xs t).1 (atV par rate xs t).2 := by
      by_cases h4 : atE par rate (xs ++ [x]) t = 0
      · obtain ⟨e', _⟩ := at_meet h4
        have hm : (atV par rate xs t).1 ≤ (atV par rate (xs ++ [x]) t).1 ∧ (atV par rate (xs ++ [x]) t).2 ≤ (atV par rate xs t).2 := by
          rw [e, e', meetU_snoc]
          dsimp only
          omega
        rw [if_pos h4, inside_of hm.1 hm.2]
        rfl
      · rw [if_neg h4]
    refine c1.trans ?_
    rw [isobathlaw05_ClockMore.j1, if_neg (by decide), hA, Option.bind_some, wrap_id (n := dr) (by omega) (by omega), wrap_id (n := rate + dr) (by omega) (by omega), mn_min]
    dsimp only
    generalize hR : min 1000000 (rate + dr) = R
    have hRr : rate ≤ R ∧ R ≤ 1000000 := by omega
    have c2 : (if atE par R xs t = 0 then ((isobathlaw05_inside.f (atV par rate xs t).1 (atV par rate xs t).2 (atV par R xs t).1 (atV par R xs t).2).bind fun t293 => (isobathlaw05_ClockMore.j2 38 t w (!t293) par rate xs (atV par rate xs t).1 (atV par rate xs t).2)) else (isobathlaw05_ClockMore.j2 38 t w false par rate xs (atV par rate xs t).1 (atV par rate xs t).2)) = isobathlaw05_ClockMore.j2 38 t w false par rate xs (atV par rate xs t).1 (atV par rate xs t).2 := by
      by_cases h4 : atE par R xs t = 0
      · have h4' : atE par R (xs.map id) t = 0 := by rw [List.map_id]; exact h4
        have hm := at_mono h3 h4' (fun y _ hy => by
          obtain ⟨⟨a1, a2, a3⟩, _⟩ := okX_iff.1 hy
          have g1 := gro_rate (d := y.f3 - y.f0) (by omega) hRr.1
          have g2 := gro_rate (d := dis y.f3 t) (by unfold dis; omega) hRr.1
          unfold loX hiX offC
          dsimp only [id]
          omega)
        rw [List.map_id] at hm
        rw [if_pos h4, inside_of hm.1 hm.2]
        rfl
      · rw [if_neg h4]
    refine c2.trans ?_
    rw [isobathlaw05_ClockMore.j2, if_neg (by decide), Option.bind_some, if_pos (by rw [List.length_nil]; omega), List.nil_append]
    have hlp := loop hw' (by omega) hX t (atV par rate xs t).1 (atV par rate xs t).2 par rate xs.length 0 36 (by omega) (by omega)
    rw [List.take_zero, List.drop_zero, List.map_nil, List.nil_append] at hlp
    refine hlp.trans ?_
    rw [isobathlaw05_ClockMore.l0, List.length_map, if_neg (by omega), hA, Option.bind_some]
    dsimp only
    by_cases h5 : atE par rate (xs.map (wide w)) t = 0
    · have hm := at_mono h3 h5 (fun y _ hy => by
        obtain ⟨_, _, ⟨c1, c2, c3⟩, d1, d2, d3⟩ := okX_iff.1 hy
        unfold loX hiX offC wide
        dsimp only
        omega)
      rw [if_pos h5, inside_of hm.1 hm.2, Option.bind_some, if_pos rfl, works]
      rfl
    · rw [if_neg h5, works]
      rfl
  · rw [if_neg h3, works]
    rfl
end Go.Proofs.Ytcjdhajdoikojaa.Pure
end
