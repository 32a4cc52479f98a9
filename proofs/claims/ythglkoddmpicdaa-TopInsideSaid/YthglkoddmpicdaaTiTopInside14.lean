/- Part 14 of the proof of TopInside: what the functions compute. No condition. -/
import Derived.SizedLaws
import Derived.ChangeSlices
import Derived.Deep.Slices
import Derived.ChangeArms
import Derived.DataReads
import Derived.WideShapes
import Derived.Test.YthglkoddmpicdaaTiTopInside3
import Derived.Test.YthglkoddmpicdaaTiTopInside2
import Derived.Test.YthglkoddmpicdaaTiTopInside8
import Derived.Test.YthglkoddmpicdaaTiTopInside10
import Derived.Test.YthglkoddmpicdaaTiTopInside11
import Derived.Test.YthglkoddmpicdaaTiTopInside7
import Derived.Test.YthglkoddmpicdaaTiTopInside12
import Derived.Test.YthglkoddmpicdaaTiTopInside5
set_option linter.unusedVariables false
set_option linter.unusedSimpArgs false
section
-- PRINTED BY print.sh 35421559b90ae4d0a3588c463048766b98c2df88dd9212a6774a882060cdf62d: not written by this session
-- PRINTED WORDS (module Derived/Print/Sized.lean): go-gate-2's, for the rows of laws over slices: an AI agent of Go's test side, Tue Nov 17 2026; no person has read it. Lean checks it.
namespace Go.Proofs.YthglkoddmpicdaaW.PrintWords
open Go.ChangeShapes Go.WideShapes
end Go.Proofs.YthglkoddmpicdaaW.PrintWords
end
section
/- What is read of an argument of a law: a datum of a type reads as a value of its kind; its whole numbers are of their kind, and its slices are within the reach. No condition. -/
namespace Go.Proofs.YthglkoddmpicdaaW.Opens
open Go.RowKit Go.Proofs.YthglkoddmpicdaaW.PrintWords Go.Deep Go.ChangeShapes Go.WideShapes
set_option linter.unusedVariables false
section
variable {H : Type} {enc : TypeId × Value → H} {P : Program}

/-- A datum of type t reads as a value of the kind K of which G holds. -/
def Opens {α : Type} (enc : TypeId × Value → H) (P : Program) (t : TypeId) (K : Kd α) (G : α → Prop) : Prop :=
 ∀ (w : World) (fuel : Nat) (cs : List Value) (x : DataW H × List MemPlace), DataW.trod enc P w 0 (fun _ => true) true fuel t cs = some x → (DataW.weights P t x.1).all (· ≤ reachBytes) = true → ∃ y, K.K w y cs ∧ G y

theorem Opens.int {t : TypeId} {k : IntKind} (hu : P.underlying t = some (.int k)) : Opens enc P t (Kd.int k) (fun n => (Lit.int k n).wf = true) := by
 intro w fuel cs x h _
 cases fuel with
 | zero => simp [DataW.trod] at h
 | succ n =>
  unfold DataW.trod at h
  rw [hu] at h
  split at h <;> simp_all
  obtain ⟨⟨rfl, hw⟩, _⟩ := h
  rename_i n _ _
  exact ⟨_, rfl, hw⟩
theorem Opens.bool {t : TypeId} (hu : P.underlying t = some .bool) : Opens enc P t Kd.bool (fun _ => True) := by
 intro w fuel cs x h _
 cases fuel with
 | zero => simp [DataW.trod] at h
 | succ n =>
  unfold DataW.trod at h
  rw [hu] at h
  split at h <;> simp_all
  rename_i b _
  cases b
  ·exact .inl rfl
  ·exact .inr rfl

/-- The fields from offset off on. -/
def OpensFs {α : Type} (enc : TypeId × Value → H) (P : Program) (off : Nat) (fs : List Field) (K : Kd α) (G : α → Prop) : Prop :=
 ∀ (w : World) (fuel : Nat) (cs : List Value) (xs : List (DataW H × List MemPlace)), cs.length = off + K.sz → xs.length = fs.length →
  (∀ (i : Nat) (f : Field), fs[i]? = some f → DataW.trod enc P w 0 (fun _ => true) true fuel f.type ((cs.drop f.offset).take (P.cellsOf f.type)) = xs[i]?) →
  (DataW.weightsEach P (fs.map (·.type)) (xs.map (·.1))).all (· ≤ reachBytes) = true → ∃ y, K.K w y (cs.drop off) ∧ G y

theorem OpensFs.one {α : Type} {off : Nat} {f : Field} {K : Kd α} {G : α → Prop} (hoff : f.offset = off) (hsz : P.cellsOf f.type = K.sz) (h : Opens enc P f.type K G) : OpensFs enc P off [f] K G := by
 intro w fuel cs xs hl hx hi hw
 obtain ⟨x, rfl⟩ : ∃ x, xs = [x] := by
  match xs, hx with
  | [x], _ => exact ⟨x, rfl⟩
 have h1 := hi 0 f rfl
 rw [hoff, hsz, List.take_of_length_le (by simp; omega)] at h1
 exact h w fuel _ x h1 (by simpa [DataW.weightsEach] using hw)
theorem OpensFs.cons {α β : Type} {off : Nat} {f : Field} {fs : List Field} {K : Kd α} {G : α → Prop} {K' : Kd β} {G' : β → Prop} (hoff : f.offset = off) (hsz : P.cellsOf f.type = K.sz) (h : Opens enc P f.type K G) (h' : OpensFs enc P (off + K.sz) fs K' G') :
  OpensFs enc P off (f :: fs) (Kd.pair K K') (fun y => G y.1 ∧ G' y.2) := by
 intro w fuel cs xs hl hx hi hw
 obtain ⟨x, xs', rfl⟩ : ∃ x xs', xs = x :: xs' := by
  match xs, hx with
  | x :: xs', _ => exact ⟨x, xs', rfl⟩
 have hl2 : cs.length = off + (K.sz + K'.sz) := hl
 have h1 := hi 0 f rfl
 rw [hoff, hsz] at h1
 simp only [List.map_cons, DataW.weightsEach, List.all_append, Bool.and_eq_true] at hw
 obtain ⟨y, hy, gy⟩ := h w fuel _ x h1 hw.1
 obtain ⟨y', hy', gy'⟩ := h' w fuel cs xs' (by omega) (by simpa using hx) (fun i g hg => by simpa using hi (i + 1) g (by simpa using hg)) hw.2
 refine ⟨(y, y'), ⟨_, _, ?_, hy, hy'⟩, gy, gy'⟩
 rw [← List.drop_drop, List.take_append_drop]
theorem Opens.struct {α β : Type} {t : TypeId} {fs : Array Field} {K : Kd α} {G : α → Prop} {f : β → α} (g : α → β) (hu : P.underlying t = some (.struct fs)) (hsz : P.cellsOf t = K.sz) (hg : ∀ y, f (g y) = y) (h : OpensFs enc P 0 fs.toList K G) :
  Opens enc P t (Kd.iso K f) (fun z => G (f z)) := by
 intro w fuel cs x hx hw
 obtain ⟨xs, n, rfl, rfl, hl, hxl, hi⟩ := DataW.trod_struct hu hx
 obtain ⟨y, hy, gy⟩ := h w n cs xs (by omega) (by simpa using hxl) (fun i f hf => hi i f (by simpa using hf)) (by simpa [DataW.weights, hu] using hw)
 refine ⟨g y, ?_, by show G (f (g y)); rw [hg]; exact gy⟩
 show K.K w (f (g y)) cs
 rw [hg]
 simpa using hy

theorem list_of_lt {α : Type} {Q : Nat → α → Prop} : ∀ (n : Nat), (∀ i, i < n → ∃ y, Q i y) → ∃ ys : List α, ys.length = n ∧ ∀ i y, ys[i]? = some y → Q i y
 | 0, _ => ⟨[], rfl, fun i y h => by simp at h⟩
 | n + 1, h => by
  obtain ⟨ys, hl, hq⟩ := list_of_lt n (fun i hi => h i (by omega))
  obtain ⟨y, hy⟩ := h n (by omega)
  refine ⟨ys ++ [y], by simp [hl], fun i z hz => ?_⟩
  rw [List.getElem?_append] at hz
  split at hz
  ·exact hq i z hz
  ·rename_i hi
   obtain rfl : i = n := by
    have := (List.getElem?_eq_some_iff.1 hz).1
    simp at this
    omega
   simp [hl] at hz
   exact hz ▸ hy
theorem weightsAll_mem {e : TypeId} : ∀ {ds : List (DataW H)} {d : DataW H}, (DataW.weightsAll P e ds).all (· ≤ reachBytes) = true → d ∈ ds → (DataW.weights P e d).all (· ≤ reachBytes) = true
 | [], _, _, h => by cases h
 | a :: r, d, hw, h => by
  simp only [DataW.weightsAll, List.all_append, Bool.and_eq_true] at hw
  rcases List.mem_cons.1 h with rfl | h
  ·exact hw.1
  ·exact weightsAll_mem hw.2 h
theorem Opens.slice {α : Type} {t e : TypeId} (e' : Nat) {K : Kd α} {G : α → Prop} (hu : P.underlying t = some (.slice e)) (hsz : P.cellsOf e = K.sz) (h : Opens enc P e K G) :
  Opens enc P t (Kd.slice e' K) (fun ys => (∀ y ∈ ys, G y) ∧ ys.length * P.bytesOf e ≤ reachBytes) := by
 intro w fuel cs x hx hw
 rcases open_slice hu hx with ⟨rfl, rfl⟩ | ⟨a, len, cap, m, n, D, Pl, rfl, hb, hl, hm, hmm, rfl, hi⟩
 ·exact ⟨[], ⟨none, 0, rfl, by simp, ⟨rfl, by simp, fun h => by simp at h⟩⟩, by simp, by simp⟩
 ·have hmc : m = cap := by simpa using hmm
  subst hmc
  simp only [DataW.weights, hu, List.all_cons, List.all_append, Bool.and_eq_true, decide_eq_true_eq, List.length_map, List.length_range] at hw
  obtain ⟨ys, hyl, hys⟩ := list_of_lt (Q := fun i y => (∃ cs', w.cells? 0 (a.add (i * P.cellsOf e)) (P.cellsOf e) = some cs' ∧ K.K w y cs') ∧ G y) len (fun i hil => by
   obtain ⟨cs', hc, ht⟩ := hi i (by omega)
   obtain ⟨y, hy, gy⟩ := h w n cs' _ ht (weightsAll_mem hw.2.1 (List.mem_map.2 ⟨i, List.mem_range.2 hil, rfl⟩))
   exact ⟨y, ⟨cs', hc, hy⟩, gy⟩)
  refine ⟨ys, ⟨some a, m, by rw [hyl], by omega, hyl.trans hyl.symm |>.trans (by rfl), ?_, fun _ => ⟨a, rfl, fun j p hj => ?_⟩⟩, fun y hy => ?_, ?_⟩
  ·unfold maxLen at hm
   omega
  ·obtain ⟨⟨cs', hc, hk⟩, _⟩ := hys j p hj
   obtain ⟨_, hcl, hcell⟩ := World.cells?_some hc
   refine ⟨cs', by rw [hcl, hsz], hk, fun i u hu' => ?_⟩
   have hlt := (List.getElem?_eq_some_iff.1 hu').1
   rw [← Go.Deep.add_add, ← hsz, hcell i (by omega), hu']
  ·obtain ⟨j, hj⟩ := List.getElem?_of_mem hy
   exact (hys j y hj).2
  ·refine Nat.le_trans (Nat.mul_le_mul_right _ (show ys.length ≤ len + (m - len) by omega)) hw.1
/-- An argument of a law. -/
theorem Opens.arg {α : Type} {t : TypeId} {K : Kd α} {G : α → Prop} (h : Opens enc P t K G) {w : World} {v : Value} {d : DataW H} {p : List MemPlace} (ht : DataW.Trod enc P w 0 (fun _ => true) true t v d p)
  {ts : List TypeId} {ds : List (DataW H)} (hsz : (DataW.weightsEach P ts ds).all (· ≤ reachBytes) = true) {j : Nat} (hj : ts[j]? = some t) (hd : ds[j]? = some d) : ∃ y, K.K w y v.cells.toList ∧ G y := by
 obtain ⟨fuel, hf⟩ := ht
 exact h w fuel _ _ hf (List.all_eq_true.2 fun n hn => List.all_eq_true.1 hsz _ (DataW.weights_mem_each hj hd n hn))
end
end Go.Proofs.YthglkoddmpicdaaW.Opens
end
section
/- What is known of the arguments of the laws. -/
namespace Go.Proofs.Ythglkoddmpicdaa.Good
open Go.RowKit Go.Proofs.YthglkoddmpicdaaW.PrintWords Go.Proofs.YthglkoddmpicdaaW.PrintLast Go.Proofs.YthglkoddmpicdaaW.PrintMore Go.Proofs.Ythglkoddmpicdaa.Pr Go.Proofs.YthglkoddmpicdaaW.Opens
set_option linter.unusedVariables false
def W27 (x : S27) : Prop := (Lit.int .i64 x.f0).wf = true ∧ (Lit.int .i64 x.f1).wf = true
theorem opens27 {H : Type} {enc : TypeId × Value → H} : Opens enc Try.prog 27 k27 W27 := Opens.struct (fun p => ⟨p.1, p.2⟩) Try.underlying27 zq2 (fun _ => rfl) (OpensFs.cons rfl zq2 (Opens.int Try.underlying2) (OpensFs.one rfl zq2 (Opens.int Try.underlying2)))
def W33 (x : S33) : Prop := W27 x.f0 ∧ W27 x.f1
theorem opens33 {H : Type} {enc : TypeId × Value → H} : Opens enc Try.prog 33 k33 W33 := Opens.struct (fun p => ⟨p.1, p.2⟩) Try.underlying33 zq2 (fun _ => rfl) (OpensFs.cons rfl zq2 opens27 (OpensFs.one rfl zq2 opens27))
def W25 (x : S25) : Prop := (Lit.int .i64 x.f0).wf = true ∧ (Lit.int .i64 x.f1).wf = true ∧ (Lit.int .i64 x.f2).wf = true ∧ (Lit.int .i64 x.f3).wf = true ∧ (Lit.int .i64 x.f4).wf = true ∧ (Lit.int .i64 x.f5).wf = true ∧ (Lit.int .i64 x.f6).wf = true ∧ ((∀ y ∈ x.f7, True) ∧ x.f7.length * Try.prog.bytesOf 4 ≤ reachBytes) ∧ ((∀ y ∈ x.f8, W33 y) ∧ x.f8.length * Try.prog.bytesOf 33 ≤ reachBytes)
theorem opens25 {H : Type} {enc : TypeId × Value → H} : Opens enc Try.prog 25 k25 W25 := Opens.struct (fun p => ⟨p.1, p.2.1, p.2.2.1, p.2.2.2.1, p.2.2.2.2.1, p.2.2.2.2.2.1, p.2.2.2.2.2.2.1, p.2.2.2.2.2.2.2.1, p.2.2.2.2.2.2.2.2⟩) Try.underlying25 zq2 (fun _ => rfl) (OpensFs.cons rfl zq2 (Opens.int Try.underlying3) (OpensFs.cons rfl zq2 (Opens.int Try.underlying3) (OpensFs.cons rfl zq2 (Opens.int Try.underlying2) (OpensFs.cons rfl zq2 (Opens.int Try.underlying2) (OpensFs.cons rfl zq2 (Opens.int Try.underlying3) (OpensFs.cons rfl zq2 (Opens.int Try.underlying3) (OpensFs.cons rfl zq2 (Opens.int Try.underlying2) (OpensFs.cons rfl zq2 (Opens.slice 4 Try.underlying22 zq2 (Opens.bool Try.underlying4)) (OpensFs.one rfl zq2 (Opens.slice 33 Try.underlying23 zq2 opens33))))))))))
def W29 (x : S29) : Prop := W27 x.f0 ∧ W27 x.f1
theorem opens29 {H : Type} {enc : TypeId × Value → H} : Opens enc Try.prog 29 k29 W29 := Opens.struct (fun p => ⟨p.1, p.2⟩) Try.underlying29 zq2 (fun _ => rfl) (OpensFs.cons rfl zq2 opens27 (OpensFs.one rfl zq2 opens27))
def W41 (x : S41) : Prop := (Lit.int .i64 x.f0).wf = true ∧ (Lit.int .i64 x.f1).wf = true ∧ W27 x.f2 ∧ W27 x.f3 ∧ (Lit.int .i64 x.f4).wf = true
theorem opens41 {H : Type} {enc : TypeId × Value → H} : Opens enc Try.prog 41 k41 W41 := Opens.struct (fun p => ⟨p.1, p.2.1, p.2.2.1, p.2.2.2.1, p.2.2.2.2⟩) Try.underlying41 zq2 (fun _ => rfl) (OpensFs.cons rfl zq2 (Opens.int Try.underlying2) (OpensFs.cons rfl zq2 (Opens.int Try.underlying2) (OpensFs.cons rfl zq2 opens27 (OpensFs.cons rfl zq2 opens27 (OpensFs.one rfl zq2 (Opens.int Try.underlying2))))))
def W44 (x : S44) : Prop := W29 x.f0 ∧ (Lit.int .i64 x.f1).wf = true ∧ (Lit.int .i64 x.f2).wf = true
theorem opens44 {H : Type} {enc : TypeId × Value → H} : Opens enc Try.prog 44 k44 W44 := Opens.struct (fun p => ⟨p.1, p.2.1, p.2.2⟩) Try.underlying44 zq2 (fun _ => rfl) (OpensFs.cons rfl zq2 opens29 (OpensFs.cons rfl zq2 (Opens.int Try.underlying2) (OpensFs.one rfl zq2 (Opens.int Try.underlying2))))
end Go.Proofs.Ythglkoddmpicdaa.Good
end
section
namespace Go.Proofs.Ythglkoddmpicdaa.Pr
open Go.RowKit Go.Proofs.YthglkoddmpicdaaW.PrintWords Go.Proofs.YthglkoddmpicdaaW.PrintLast Go.Proofs.YthglkoddmpicdaaW.PrintMore
attribute [local go_sem] max2_int min2_int max_two min_two max_four
set_option linter.unusedVariables false
set_option linter.unusedSimpArgs false

/-! ### isobathref01_ValidBox: function 55 -/
end Go.Proofs.Ythglkoddmpicdaa.Pr
end
section
namespace Go.Proofs.Ythglkoddmpicdaa.Pr
open Go.RowKit Go.Proofs.YthglkoddmpicdaaW.PrintWords Go.Proofs.YthglkoddmpicdaaW.PrintLast Go.Proofs.YthglkoddmpicdaaW.PrintMore
attribute [local go_sem] max2_int min2_int max_two min_two max_four
set_option linter.unusedVariables false
set_option linter.unusedSimpArgs false

/-! ### isobathref03_inSea: function 56 -/
end Go.Proofs.Ythglkoddmpicdaa.Pr
end
section
namespace Go.Proofs.Ythglkoddmpicdaa.Pr
open Go.RowKit Go.Proofs.YthglkoddmpicdaaW.PrintWords Go.Proofs.YthglkoddmpicdaaW.PrintLast Go.Proofs.YthglkoddmpicdaaW.PrintMore
attribute [local go_sem] max2_int min2_int max_two min_two max_four
set_option linter.unusedVariables false
set_option linter.unusedSimpArgs false

/-! ### isobathref03_inTime: function 57 -/
end Go.Proofs.Ythglkoddmpicdaa.Pr
end
section
namespace Go.Proofs.Ythglkoddmpicdaa.Pr
open Go.RowKit Go.Proofs.YthglkoddmpicdaaW.PrintWords Go.Proofs.YthglkoddmpicdaaW.PrintLast Go.Proofs.YthglkoddmpicdaaW.PrintMore
attribute [local go_sem] max2_int min2_int max_two min_two max_four
set_option linter.unusedVariables false
set_option linter.unusedSimpArgs false

/-! ### isobathref03_common: function 158 -/
end Go.Proofs.Ythglkoddmpicdaa.Pr
end
section
namespace Go.Proofs.Ythglkoddmpicdaa.Pr
open Go.RowKit Go.Proofs.YthglkoddmpicdaaW.PrintWords Go.Proofs.YthglkoddmpicdaaW.PrintLast Go.Proofs.YthglkoddmpicdaaW.PrintMore
attribute [local go_sem] max2_int min2_int max_two min_two max_four
set_option linter.unusedVariables false
set_option linter.unusedSimpArgs false

/-! ### isobathref03_touches: function 117 -/
end Go.Proofs.Ythglkoddmpicdaa.Pr
end
section
namespace Go.Proofs.Ythglkoddmpicdaa.Pr
open Go.RowKit Go.Proofs.YthglkoddmpicdaaW.PrintWords Go.Proofs.YthglkoddmpicdaaW.PrintLast Go.Proofs.YthglkoddmpicdaaW.PrintMore
attribute [local go_sem] max2_int min2_int max_two min_two max_four
set_option linter.unusedVariables false
set_option linter.unusedSimpArgs false

/-! ### isobathref03_Cell: function 118 -/
end Go.Proofs.Ythglkoddmpicdaa.Pr
end
section
namespace Go.Proofs.Ythglkoddmpicdaa.Pr
open Go.RowKit Go.Proofs.YthglkoddmpicdaaW.PrintWords Go.Proofs.YthglkoddmpicdaaW.PrintLast Go.Proofs.YthglkoddmpicdaaW.PrintMore
attribute [local go_sem] max2_int min2_int max_two min_two max_four
set_option linter.unusedVariables false
set_option linter.unusedSimpArgs false

/-! ### isobathref03_hull: function 119 -/
end Go.Proofs.Ythglkoddmpicdaa.Pr
end
section
namespace Go.Proofs.Ythglkoddmpicdaa.Pr
open Go.RowKit Go.Proofs.YthglkoddmpicdaaW.PrintWords Go.Proofs.YthglkoddmpicdaaW.PrintLast Go.Proofs.YthglkoddmpicdaaW.PrintMore
attribute [local go_sem] max2_int min2_int max_two min_two max_four
set_option linter.unusedVariables false
set_option linter.unusedSimpArgs false

/-! ### isobathref03_at: function 58 -/
end Go.Proofs.Ythglkoddmpicdaa.Pr
end
section
namespace Go.Proofs.Ythglkoddmpicdaa.Pr
open Go.RowKit Go.Proofs.YthglkoddmpicdaaW.PrintWords Go.Proofs.YthglkoddmpicdaaW.PrintLast Go.Proofs.YthglkoddmpicdaaW.PrintMore
attribute [local go_sem] max2_int min2_int max_two min_two max_four
set_option linter.unusedVariables false
set_option linter.unusedSimpArgs false

/-! ### isobathref03_At: function 14 -/
end Go.Proofs.Ythglkoddmpicdaa.Pr
end
section
/- What the document's answer says of seas, vehicles and boxes: the same as the program. -/
namespace Go.Proofs.Ythglkoddmpicdaa.Gl
open Go.RowKit Go.Proofs.YthglkoddmpicdaaW.PrintWords Go.Proofs.YthglkoddmpicdaaW.PrintLast Go.Proofs.YthglkoddmpicdaaW.PrintMore Go.Proofs.Ythglkoddmpicdaa.Pr
set_option linter.unusedVariables false
theorem w64_id {x : Int} (h : -9223372036854775808 ≤ x ∧ x < 9223372036854775808) : wrap64 x = x := by unfold wrap64; omega
theorem ref_valid (lo hi : Int) : isobathref01_Valid.f lo hi = some (okS lo hi) := by
 unfold isobathref01_Valid.f isobathref01_Within.f
 rw [show okS lo hi = (decide (lo ≤ hi) && (decide (-1073741824 ≤ lo) && decide (lo ≤ 1073741824)) && (decide (-1073741824 ≤ hi) && decide (hi ≤ 1073741824))) from by
  rw [Bool.eq_iff_iff, okS_iff]; simp only [Bool.and_eq_true, decide_eq_true_eq]; omega]
 by_cases h1 : lo ≤ hi <;> by_cases h2 : -1073741824 ≤ lo <;> by_cases h3 : lo ≤ 1073741824 <;> by_cases h4 : -1073741824 ≤ hi <;> by_cases h5 : hi ≤ 1073741824 <;> simp [h1, h2, h3, h4, h5]
theorem ref_bounded (lo hi a b : Int) : isobathref03_bounded.f lo hi a b = some (bndB lo hi a b) := by
 unfold isobathref03_bounded.f bndB
 rw [ref_valid, Option.bind_some]
 cases okS lo hi with
 | false => rfl
 | true =>
  by_cases h : a ≤ lo <;> simp [h]
theorem sea_loop (s : Sea) (hm : 0 ≤ s.most ∧ s.most ≤ 5000) (hl : s.currents.length ≤ 100000) : ∀ (m i K : Nat), i + m = s.currents.length → m + 1 ≤ K →
  isobathref03_CheckSea.l0 K (i : Int) s.nx s.ny s.cell s.slot s.slots s.layers s.most s.shores s.currents = some (if (s.currents.drop i).any (badC s.most) then 2 else 0)
 | 0, i, K + 1, h, hk => by
  rw [isobathref03_CheckSea.l0, if_neg (by omega), List.drop_eq_nil_of_le (by omega)]; rfl
 | m + 1, i, K + 1, h, hk => by
  have hi : i < s.currents.length := by omega
  rw [isobathref03_CheckSea.l0, if_pos (by omega), if_pos (by omega), w64_id (x := -s.most) (by omega), w64_id (x := (i : Int) + 1) (by omega)]
  have e : rd_T33 s.currents (i : Int) = s.currents[i] := by
   unfold rd_T33
   simp [hi]
  rw [e, ref_bounded, Option.bind_some, ref_bounded, Option.bind_some, List.drop_eq_getElem_cons hi, List.any_cons]
  have ih := sea_loop s hm hl m (i + 1) K (by omega) (by omega)
  rw [show ((i + 1 : Nat) : Int) = (i : Int) + 1 from by omega] at ih
  rw [ih, show badC s.most s.currents[i] = (!bndB s.currents[i].f0.f0 s.currents[i].f0.f1 (-s.most) s.most || !bndB s.currents[i].f1.f0 s.currents[i].f1.f1 (-s.most) s.most) from rfl]
  cases bndB s.currents[i].f0.f0 s.currents[i].f0.f1 (-s.most) s.most
  ·rfl
  cases bndB s.currents[i].f1.f0 s.currents[i].f1.f1 (-s.most) s.most
  ·rfl
  rfl
theorem ref_sea (s : Sea) (K : Nat) (hl : s.currents.length ≤ 100000) (hk : s.currents.length + 3 ≤ K) : isobathref03_CheckSea.f K s.nx s.ny s.cell s.slot s.slots s.layers s.most s.shores s.currents = some (seaE s) := by
 obtain ⟨K, rfl⟩ : ∃ k, K = k + 2 := ⟨K - 2, by omega⟩
 have hj : isobathref03_CheckSea.j0 (K + 2) true s.nx s.ny s.cell s.slot s.slots s.layers s.most s.shores s.currents = some 2 := by rw [isobathref03_CheckSea.j0, if_pos rfl]
 unfold isobathref03_CheckSea.f seaE seaB
 rw [hj]
 unfold btwB
 by_cases h1 : s.nx < 1
 ·rw [if_pos h1, show decide (1 ≤ s.nx) = false from decide_eq_false (by omega)]; rfl
 rw [if_neg h1, show decide (1 ≤ s.nx) = true from decide_eq_true (by omega)]
 by_cases h2 : s.nx > 12
 ·rw [if_pos h2, show decide (s.nx ≤ 12) = false from decide_eq_false (by omega)]; rfl
 rw [if_neg h2, show decide (s.nx ≤ 12) = true from decide_eq_true (by omega)]
 by_cases h3 : s.ny < 1
 ·rw [if_pos h3, show decide (1 ≤ s.ny) = false from decide_eq_false (by omega)]; rfl
 rw [if_neg h3, show decide (1 ≤ s.ny) = true from decide_eq_true (by omega)]
 by_cases h4 : s.ny > 12
 ·rw [if_pos h4, show decide (s.ny ≤ 12) = false from decide_eq_false (by omega)]; rfl
 rw [if_neg h4, show decide (s.ny ≤ 12) = true from decide_eq_true (by omega)]
 by_cases h5 : s.cell < 100
 ·rw [if_pos h5, show decide (100 ≤ s.cell) = false from decide_eq_false (by omega)]; rfl
 rw [if_neg h5, show decide (100 ≤ s.cell) = true from decide_eq_true (by omega)]
 by_cases h6 : s.cell > 65536
 ·rw [if_pos h6, show decide (s.cell ≤ 65536) = false from decide_eq_false (by omega)]; rfl
 rw [if_neg h6, show decide (s.cell ≤ 65536) = true from decide_eq_true (by omega)]
 by_cases h7 : s.slot < 1
 ·rw [if_pos h7, show decide (1 ≤ s.slot) = false from decide_eq_false (by omega)]; rfl
 rw [if_neg h7, show decide (1 ≤ s.slot) = true from decide_eq_true (by omega)]
 by_cases h8 : s.slot > 1048576
 ·rw [if_pos h8, show decide (s.slot ≤ 1048576) = false from decide_eq_false (by omega)]; rfl
 rw [if_neg h8, show decide (s.slot ≤ 1048576) = true from decide_eq_true (by omega)]
 by_cases h9 : s.slots < 1
 ·rw [if_pos h9, show decide (1 ≤ s.slots) = false from decide_eq_false (by omega)]; rfl
 rw [if_neg h9, show decide (1 ≤ s.slots) = true from decide_eq_true (by omega)]
 by_cases h10 : s.slots > 16
 ·rw [if_pos h10, show decide (s.slots ≤ 16) = false from decide_eq_false (by omega)]; rfl
 rw [if_neg h10, show decide (s.slots ≤ 16) = true from decide_eq_true (by omega)]
 by_cases h11 : s.layers < 1
 ·rw [if_pos h11, show decide (1 ≤ s.layers) = false from decide_eq_false (by omega)]; rfl
 rw [if_neg h11, show decide (1 ≤ s.layers) = true from decide_eq_true (by omega)]
 by_cases h12 : s.layers > 3
 ·rw [if_pos h12, show decide (s.layers ≤ 3) = false from decide_eq_false (by omega)]; rfl
 rw [if_neg h12, show decide (s.layers ≤ 3) = true from decide_eq_true (by omega)]
 by_cases h13 : s.most < 0
 ·rw [if_pos h13, show decide (0 ≤ s.most) = false from decide_eq_false (by omega)]; rfl
 rw [if_neg h13, show decide (0 ≤ s.most) = true from decide_eq_true (by omega)]
 by_cases h14 : s.most > 5000
 ·rw [show decide (s.most > 5000) = true from decide_eq_true h14, hj, show decide (s.most ≤ 5000) = false from decide_eq_false (by omega)]; rfl
 rw [show decide (s.most > 5000) = false from decide_eq_false h14, show decide (s.most ≤ 5000) = true from decide_eq_true (by omega)]
 obtain ⟨n0, n1⟩ := mul_in (a := s.nx) (b := s.ny) (m := 12) (n := 12) (by omega) (by omega) (by omega) (by omega)
 obtain ⟨m0, m1⟩ := mul_in (a := s.slots) (b := s.layers) (m := 16) (n := 3) (by omega) (by omega) (by omega) (by omega)
 obtain ⟨q0, q1⟩ := mul_in (a := s.slots * s.layers) (b := s.nx * s.ny) (m := 48) (n := 144) (by omega) (by omega) (by omega) (by omega)
 obtain ⟨p0, p1⟩ := mul_in (a := s.slots * s.layers) (b := s.nx) (m := 48) (n := 12) (by omega) (by omega) (by omega) (by omega)
 have ea : s.layers * s.slots = s.slots * s.layers := Int.mul_comm _ _
 have eb : s.slots * s.layers * s.nx * s.ny = s.slots * s.layers * (s.nx * s.ny) := by rw [Int.mul_assoc]
 rw [isobathref03_CheckSea.j0, if_neg (by decide), w64_id (x := s.nx * s.ny) (by omega)]
 by_cases h15 : (s.shores.length : Int) = s.nx * s.ny
 ·rw [if_pos h15, decide_eq_true h15, isobathref03_CheckSea.j1, w64_id (x := s.slots * s.layers) (by omega), w64_id (x := s.slots * s.layers * s.nx) (by omega), eb, w64_id (x := s.slots * s.layers * (s.nx * s.ny)) (by omega)]
  by_cases h16 : (s.currents.length : Int) = s.slots * s.layers * (s.nx * s.ny)
  ·rw [if_neg (by rw [h16]; simp), decide_eq_true h16]
   have := sea_loop s (by omega) hl s.currents.length 0 K (by omega) (by omega)
   rw [show ((0 : Nat) : Int) = 0 from rfl, List.drop_zero] at this
   rw [this]
   cases s.currents.any (badC s.most) <;> rfl
  ·rw [if_pos (by simpa using h16), decide_eq_false h16]; rfl
 ·rw [if_neg h15, decide_eq_false h15, isobathref03_CheckSea.j1, if_pos rfl]; rfl
end Go.Proofs.Ythglkoddmpicdaa.Gl
end
section
/- What the document's answer says of boxes in boxes: the same as the program. -/
namespace Go.Proofs.Ythglkoddmpicdaa.Gl
open Go.RowKit Go.Proofs.YthglkoddmpicdaaW.PrintWords Go.Proofs.YthglkoddmpicdaaW.PrintLast Go.Proofs.YthglkoddmpicdaaW.PrintMore Go.Proofs.Ythglkoddmpicdaa.Pr
end Go.Proofs.Ythglkoddmpicdaa.Gl
end
section
/- Which cells a swarm has visited: what the program and the document's answer compute. -/
namespace Go.Proofs.Ythglkoddmpicdaa.Gl
open Go.RowKit Go.Proofs.YthglkoddmpicdaaW.PrintWords Go.Proofs.YthglkoddmpicdaaW.PrintLast Go.Proofs.YthglkoddmpicdaaW.PrintMore Go.Proofs.Ythglkoddmpicdaa.Pr
set_option linter.unusedVariables false
set_option linter.unusedSectionVars false
/-- A cell, as a box. -/
def cellV (s : Sea) (c : Int) : S29 := ⟨⟨(c % s.nx) * s.cell, (c % s.nx) * s.cell + s.cell⟩, ⟨(c / s.nx) * s.cell, (c / s.nx) * s.cell + s.cell⟩⟩
def visR (l : List S29) (x : S29) (acc : Int) : Int := l.foldl (fun a b => max a (insI b x)) acc
def visRs (rs : List (List S29)) (x : S29) (acc : Int) : Int := rs.foldl (fun a l => visR l x a) acc
def visL (s : Sea) (rs : List (List S29)) (c m : Nat) : List Int := (List.range' c m).map (fun (i : Nat) => visRs rs (cellV s (i : Int)) 0)
def firstE : List (List S29) → Int
 | [] => 0
 | l :: t => if boxesE l = 0 then firstE t else boxesE l
def runsE (rs : List (List S29)) : Int := if rs.length > 8 then 6 else if rs.any (fun x => decide (64 < x.length)) then 6 else firstE rs
/-- What Visited returns. -/
def VisX (s : Sea) (rs : List (List S29)) : List Int × Int := if seaE s = 0 then (if runsE rs = 0 then (visL s rs 0 (s.nx * s.ny).toNat, 0) else ([], runsE rs)) else ([], seaE s)
theorem seaE_n {s : Sea} (h : seaE s = 0) : SeaN s := by
 unfold seaE at h
 cases hb : seaB s with
 | false => rw [hb] at h; cases h
 | true =>
  unfold seaB at hb
  simp only [Bool.and_eq_true, btwB_iff] at hb
  obtain ⟨⟨⟨⟨⟨⟨⟨⟨⟨h1, h2⟩, h3⟩, h4⟩, h5⟩, h6⟩, h7⟩, _⟩, _⟩, _⟩ := hb
  exact ⟨h1, h2, h3, h4, h5, h6, h7⟩
section
variable (s : Sea) (hS : SeaN s) (rs : List (List S29)) (hrs : rs.length ≤ 8) (hlen : ∀ l ∈ rs, l.length ≤ 64)
include hS
theorem cell_num {c : Nat} (hc : c < 144) : 0 ≤ (c : Int) % s.nx ∧ (c : Int) % s.nx ≤ 144 ∧ 0 ≤ (c : Int) / s.nx ∧ (c : Int) / s.nx ≤ 144 ∧ 0 ≤ ((c : Int) % s.nx) * s.cell ∧ ((c : Int) % s.nx) * s.cell ≤ 144 * 65536 ∧ 0 ≤ ((c : Int) / s.nx) * s.cell ∧ ((c : Int) / s.nx) * s.cell ≤ 144 * 65536 ∧ Int.tmod (c : Int) s.nx = (c : Int) % s.nx ∧ Int.tdiv (c : Int) s.nx = (c : Int) / s.nx := by
 have hn := hS.nx
 have hcl := hS.cell
 have d := div_in (x := (c : Int)) (c := s.nx) (by omega) (by omega)
 have r := mod_in (x := (c : Int)) (c := s.nx) (by omega)
 have m1 := mul_in (a := (c : Int) % s.nx) (b := s.cell) (m := 144) (n := 65536) r.1 (by omega) (by omega) hcl.2
 have m2 := mul_in (a := (c : Int) / s.nx) (b := s.cell) (m := 144) (n := 65536) d.1 (by omega) (by omega) hcl.2
 exact ⟨r.1, by omega, d.1, by omega, m1.1, m1.2, m2.1, m2.2, Int.tmod_eq_emod_of_nonneg (by omega), Int.tdiv_eq_ediv_of_nonneg (by omega)⟩
omit hS in
theorem rd_run {j : Nat} (hj : j < rs.length) : rd_L9 rs (j : Int) = rs[j] := by
 unfold rd_L9
 simp [hj]
omit hS in
theorem rd_box {l : List S29} {i : Nat} (hi : i < l.length) : rd_T29 l (i : Int) = l[i] := by
 unfold rd_T29
 simp [hi]
/-- The program's inner loop: the boxes of a run. -/
theorem p3_go (pre suf : List Int) (N : Int) (hp : pre.length < 144) (j : Nat) (run : List S29) (hrun : run.length ≤ 64) (cl : S29) (G : Int → Option (List Int × Int)) (F : Nat)
  (hG : ∀ K acc, F ≤ K → glider_Visited.l2 K rs (pre ++ acc :: suf) (pre.length : Int) N (pre.length : Int) rs (rs.length : Int) (wrap64 ((j : Int) + 1)) s.nx s.ny s.cell s.slot s.slots s.layers s.most s.shores s.currents cl.f0.f0 cl.f0.f1 cl.f1.f0 cl.f1.f1 = G acc) :
  ∀ (m i K : Nat) (acc : Int), i + m = run.length → F + m + 1 ≤ K → glider_Visited.l3 K rs (pre ++ acc :: suf) (pre.length : Int) N (pre.length : Int) rs (rs.length : Int) (j : Int) run (run.length : Int) (i : Int) s.nx s.ny s.cell s.slot s.slots s.layers s.most s.shores s.currents cl.f0.f0 cl.f0.f1 cl.f1.f0 cl.f1.f1 = G (visR (run.drop i) cl acc)
 | 0, i, K + 1, acc, h, hk => by
  rw [glider_Visited.l3, if_neg (by omega), List.drop_eq_nil_of_le (by omega)]
  exact hG K acc (by omega)
 | m + 1, i, K + 1, acc, h, hk => by
  have hi : i < run.length := by omega
  have ih := p3_go pre suf N hp j run hrun cl G F hG m (i + 1) K (max acc (insI run[i] cl)) (by omega) (by omega)
  have hin : glider_inside.f run[i].f0.f0 run[i].f0.f1 run[i].f1.f0 run[i].f1.f1 cl.f0.f0 cl.f0.f1 cl.f1.f0 cl.f1.f1 = some (insI run[i] cl) := rfl
  have hrd : rd (pre ++ acc :: suf) (pre.length : Int) = acc := by unfold rd; simp
  have hst : (pre ++ acc :: suf).set (pre.length : Int).toNat (mx acc (insI run[i] cl)) = pre ++ max acc (insI run[i] cl) :: suf := by rw [mx_max']; simp
  rw [glider_Visited.l3, if_pos (by omega), if_pos (by omega), if_pos (by omega), if_pos (by omega), if_pos (by rw [List.length_append, List.length_cons]; omega), rd_box hi, hin, Option.bind_some, hrd, hst, w64_id (x := (i : Int) + 1) (by omega), List.drop_eq_getElem_cons hi]
  exact ih
include hrs hlen in
theorem p2_go (pre suf : List Int) (N : Int) (hp : pre.length < 144) (cl : S29) (G : Int → Option (List Int × Int)) (F : Nat)
  (hG : ∀ K acc, F ≤ K → glider_Visited.l1 K rs (pre ++ acc :: suf) N (wrap64 ((pre.length : Int) + 1)) s.nx s.ny s.cell s.slot s.slots s.layers s.most s.shores s.currents = G acc) :
  ∀ (m j K : Nat) (acc : Int), j + m = rs.length → F + m * 67 + 1 ≤ K → glider_Visited.l2 K rs (pre ++ acc :: suf) (pre.length : Int) N (pre.length : Int) rs (rs.length : Int) (j : Int) s.nx s.ny s.cell s.slot s.slots s.layers s.most s.shores s.currents cl.f0.f0 cl.f0.f1 cl.f1.f0 cl.f1.f1 = G (visRs (rs.drop j) cl acc)
 | 0, j, K + 1, acc, h, hk => by
  rw [glider_Visited.l2, if_neg (by omega), List.drop_eq_nil_of_le (by omega)]
  exact hG K acc (by omega)
 | m + 1, j, K + 1, acc, h, hk => by
  have hj : j < rs.length := by omega
  have ih := fun K' acc' (hK : F + m * 67 + 1 ≤ K') => p2_go pre suf N hp cl G F hG m (j + 1) K' acc' (by omega) hK
  have hr := hlen _ (List.getElem_mem hj)
  rw [glider_Visited.l2, if_pos (by omega), if_pos (by omega), if_pos (by omega), rd_run rs hj, List.drop_eq_getElem_cons hj]
  have h3 := p3_go s hS rs pre suf N hp j rs[j] hr cl (fun a => G (visRs (rs.drop (j + 1)) cl a)) (F + m * 67 + 1) (fun K' acc' hK => by rw [w64_id (x := (j : Int) + 1) (by omega)]; exact ih K' acc' hK) rs[j].length 0 K acc (by omega) (by omega)
  rw [List.drop_zero] at h3
  exact h3
include hrs hlen in
theorem p1_go : ∀ (m K : Nat) (pre : List Int), pre.length + m ≤ 144 → 540 * m + 1 ≤ K → glider_Visited.l1 K rs (pre ++ List.replicate m 0) ((pre.length + m : Nat) : Int) (pre.length : Int) s.nx s.ny s.cell s.slot s.slots s.layers s.most s.shores s.currents = some (pre ++ visL s rs pre.length m, 0) := by
 intro m
 induction m with
 | zero =>
  intro K pre h hk
  obtain ⟨K, rfl⟩ : ∃ z, K = z + 1 := ⟨K - 1, by omega⟩
  rw [glider_Visited.l1, if_neg (by omega)]
  rfl
 | succ m ihm =>
  intro K pre h hk
  obtain ⟨K, rfl⟩ : ∃ z, K = z + 1 := ⟨K - 1, by omega⟩
  have hf : 540 * m + 1 + rs.length * 67 + 1 ≤ K := by omega
  have hc : pre.length < 144 := by omega
  obtain ⟨h1, h2, h3, h4, h5, h6, h7, h8, e1, e2⟩ := cell_num s hS hc
  have hn := hS.nx
  have hcl := hS.cell
  rw [glider_Visited.l1, if_pos (by omega), if_neg (by omega), e1, e2, w64_id (x := (pre.length : Int) % s.nx * s.cell) (by omega), w64_id (x := (pre.length : Int) % s.nx * s.cell + s.cell) (by omega), w64_id (x := (pre.length : Int) / s.nx) (by omega), w64_id (x := (pre.length : Int) / s.nx * s.cell) (by omega), w64_id (x := (pre.length : Int) / s.nx * s.cell + s.cell) (by omega), List.replicate_succ]
  have hgo := p2_go s hS rs hrs hlen pre (List.replicate m 0) ((pre.length + (m + 1) : Nat) : Int) hc (cellV s pre.length) (fun a => some (pre ++ a :: visL s rs (pre.length + 1) m, 0)) (540 * m + 1) (fun K' acc' hK => by
   have ih := ihm K' (pre ++ [acc']) (by rw [List.length_append, List.length_singleton]; omega) hK
   rw [List.length_append, List.length_singleton, List.append_assoc, List.append_assoc, List.singleton_append, List.singleton_append] at ih
   rw [w64_id (x := (pre.length : Int) + 1) (by omega), show (pre.length : Int) + 1 = ((pre.length + 1 : Nat) : Int) from by omega, show pre.length + (m + 1) = pre.length + 1 + m from by omega]
   exact ih) rs.length 0 K 0 (by omega) hf
  rw [List.drop_zero] at hgo
  exact hgo
end
theorem boxes_len {l : List S29} (h : boxesE l = 0) : l.length ≤ 64 := by
 unfold boxesE at h
 by_cases q : l.length > 64
 ·rw [if_pos q] at h; cases h
 ·omega
theorem p0_go (s : Sea) (hS : SeaN s) (rs : List (List S29)) (hrs : rs.length ≤ 8) (hlen : ∀ l ∈ rs, l.length ≤ 64) : ∀ (m j K : Nat), j + m = rs.length → m + 90000 ≤ K → glider_Visited.l0 K rs rs (rs.length : Int) (j : Int) s.nx s.ny s.cell s.slot s.slots s.layers s.most s.shores s.currents = some (if firstE (rs.drop j) = 0 then (visL s rs 0 (s.nx * s.ny).toNat, 0) else ([], firstE (rs.drop j)))
 | 0, j, K + 1, h, hk => by
  have hx := mul_in (a := s.nx) (b := s.ny) (m := 12) (n := 12) (by have := hS.nx; omega) hS.nx.2 (by have := hS.ny; omega) hS.ny.2
  have hgo := p1_go s hS rs hrs hlen (s.nx * s.ny).toNat K [] (by simp only [List.length_nil]; omega) (by omega)
  rw [glider_Visited.l0, if_neg (by omega), w64_id (x := s.nx * s.ny) (by omega), if_pos (by omega), if_pos (by omega), Option.bind_some, List.drop_eq_nil_of_le (by omega), List.length_replicate]
  rw [List.nil_append, List.nil_append, List.length_nil, Nat.zero_add] at hgo
  exact hgo
 | m + 1, j, K + 1, h, hk => by
  have hj : j < rs.length := by omega
  have ih := p0_go s hS rs hrs hlen m (j + 1) K (by omega) (by omega)
  have hb : glider_checkBoxes.f rs[j] = some (boxesE rs[j]) := rfl
  rw [glider_Visited.l0, if_pos (by omega), if_pos (by omega), if_pos (by omega), rd_run rs hj, hb, Option.bind_some, w64_id (x := (j : Int) + 1) (by omega), show (j : Int) + 1 = ((j + 1 : Nat) : Int) from by omega, ih, List.drop_eq_getElem_cons hj, firstE]
  by_cases hz : boxesE rs[j] = 0
  ·rw [if_pos hz, if_pos hz]
  ·rw [if_neg hz, if_neg hz, if_neg hz]
theorem vis_some (s : Sea) (rs : List (List S29)) (K : Nat) (hk : 90100 ≤ K) : glider_Visited.f K s.nx s.ny s.cell s.slot s.slots s.layers s.most s.shores s.currents rs = some (VisX s rs) := by
 obtain ⟨K, rfl⟩ : ∃ z, K = z + 1 := ⟨K - 1, by omega⟩
 unfold glider_Visited.f VisX
 have hs : glider_CheckSea.f s.nx s.ny s.cell s.slot s.slots s.layers s.most s.shores s.currents = some (seaE s) := rfl
 rw [hs, Option.bind_some]
 by_cases h0 : seaE s = 0
 ·have hS := seaE_n h0
  rw [if_pos h0, if_pos h0]
  unfold runsE
  by_cases h8 : rs.length > 8
  ·rw [if_pos (show (rs.length : Int) > 8 by omega), if_pos h8, if_neg (by decide), glider_Visited.j0, if_pos rfl]
  ·rw [if_neg (show ¬((rs.length : Int) > 8) by omega), if_neg h8]
   unfold api_Box_70.f
   rw [Option.bind_some, glider_Visited.j0]
   cases hb : rs.any (fun x => decide (64 < x.length)) with
   | true => rfl
   | false =>
    have hlen : ∀ l ∈ rs, l.length ≤ 64 := by
     intro l hl
     have := List.any_eq_false.1 hb l hl
     simp only [decide_eq_true_eq] at this
     omega
    refine (if_neg (show ¬(false = true) by decide)).trans ?_
    have := p0_go s hS rs (by omega) hlen rs.length 0 K (by omega) (by omega)
    rw [List.drop_zero] at this
    exact this
 ·rw [if_neg h0, if_neg h0]
end Go.Proofs.Ythglkoddmpicdaa.Gl
end
section
/- Is a run fetched, and is a pickup valid: what the program computes. -/
namespace Go.Proofs.Ythglkoddmpicdaa.Gl
open Go.RowKit Go.Proofs.YthglkoddmpicdaaW.PrintWords Go.Proofs.YthglkoddmpicdaaW.PrintLast Go.Proofs.YthglkoddmpicdaaW.PrintMore Go.Proofs.Ythglkoddmpicdaa.Pr
set_option linter.unusedVariables false
/-- Is a run fetched? -/
def fetI (dive : Int) (p : S44) : List S29 → Int → Int → Int
 | [], _, acc => acc
 | x :: l, t, acc => fetI dive p l (t + dive) (if p.f1 ≤ t + dive ∧ t + dive ≤ p.f2 then max acc (insI x p.f0) else acc)
theorem w64_in {x : Int} (h : -9223372036854775808 ≤ x ∧ x < 9223372036854775808) : wrap64 x = x := by unfold wrap64; omega
theorem fet_loop (v : Veh) (hv : vehB v = true) (p : S44) (l : List S29) (hl : l.length ≤ 64) : ∀ (m i K : Nat) (t acc : Int), i + m = l.length → m + 1 ≤ K → (0 ≤ t ∧ t ≤ 1073741824 + (i : Int) * 131072) →
  glider_fetched.l0 K t acc l (l.length : Int) (i : Int) v.speed v.dive v.use.f0 v.use.f1 v.drift.f0 v.drift.f1 v.reserve p.f0.f0.f0 p.f0.f0.f1 p.f0.f1.f0 p.f0.f1.f1 p.f1 p.f2 = some (fetI v.dive p (l.drop i) t acc)
 | 0, i, K + 1, t, acc, h, hk, h0 => by
  rw [glider_fetched.l0, if_neg (by omega), List.drop_eq_nil_of_le (by omega)]; rfl
 | m + 1, i, K + 1, t, acc, h, hk, h0 => by
  have hi : i < l.length := by omega
  have e : rd_T29 l (i : Int) = l[i] := by
   unfold rd_T29
   simp [hi]
  have hd : 1 ≤ v.dive ∧ v.dive ≤ 131072 := by
   unfold vehB at hv
   simp only [Bool.and_eq_true, btwB_iff] at hv
   omega
  rw [List.drop_eq_getElem_cons hi]
  unfold fetI
  rw [glider_fetched.l0, if_pos (by omega), if_pos (by omega), if_pos (by omega), e, w64_in (x := t + v.dive) (by omega), w64_in (x := (i : Int) + 1) (by omega), btw_some, Option.bind_some]
  have hin : glider_inside.f l[i].f0.f0 l[i].f0.f1 l[i].f1.f0 l[i].f1.f1 p.f0.f0.f0 p.f0.f0.f1 p.f0.f1.f0 p.f0.f1.f1 = some (insI l[i] p.f0) := rfl
  rw [hin, Option.bind_some]
  have ih := fun acc2 => fet_loop v hv p l hl m (i + 1) K (t + v.dive) acc2 (by omega) (by omega) ⟨by omega, by omega⟩
  by_cases hb : p.f1 ≤ t + v.dive ∧ t + v.dive ≤ p.f2
  ·rw [if_pos (btwB_iff.2 hb), if_pos hb, mx_max']
   exact ih _
  ·rw [if_neg (fun hq => hb (btwB_iff.1 hq)), if_neg hb]
   exact ih _
theorem fet_some (v : Veh) (hv : vehB v = true) (p : S44) (l : List S29) (hl : l.length ≤ 64) (t : Int) (ht : 0 ≤ t ∧ t ≤ 1073741824) (K : Nat) (hk : l.length + 1 ≤ K) :
  glider_fetched.f K v.speed v.dive v.use.f0 v.use.f1 v.drift.f0 v.drift.f1 v.reserve t l p.f0.f0.f0 p.f0.f0.f1 p.f0.f1.f0 p.f0.f1.f1 p.f1 p.f2 = some (fetI v.dive p l t 0) := by
 have := fet_loop v hv p l hl l.length 0 K t 0 (Nat.zero_add _) hk ⟨ht.1, by omega⟩
 rw [List.drop_zero] at this
 exact this
/-- Is a pickup valid? -/
def pickB (p : S44) : Bool := boxB p.f0 && decide (0 ≤ p.f1) && decide (p.f1 ≤ p.f2) && decide (p.f2 ≤ 1073741824)
theorem pick_some (p : S44) : glider_validPickup.f 4 p.f0.f0.f0 p.f0.f0.f1 p.f0.f1.f0 p.f0.f1.f1 p.f1 p.f2 = some (pickB p) := by
 unfold glider_validPickup.f pickB
 rw [box_some p.f0, Option.bind_some]
 unfold boxE
 cases boxB p.f0 with
 | false => rfl
 | true =>
  rw [if_pos rfl, if_pos rfl]
  by_cases h1 : p.f1 ≥ 0
  ·rw [if_pos h1, decide_eq_true (show 0 ≤ p.f1 from h1)]
   by_cases h2 : p.f1 ≤ p.f2
   ·rw [if_pos h2, decide_eq_true h2]; rfl
   ·rw [if_neg h2, decide_eq_false h2]; rfl
  ·rw [if_neg h1, decide_eq_false (show ¬(0 ≤ p.f1) from h1)]; rfl
end Go.Proofs.Ythglkoddmpicdaa.Gl
end
