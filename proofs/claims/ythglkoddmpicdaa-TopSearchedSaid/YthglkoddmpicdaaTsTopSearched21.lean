/- Part 21 of the proof of TopSearched: what the functions compute. No condition. -/
import Derived.SizedLaws
import Derived.ChangeSlices
import Derived.Deep.Slices
import Derived.ChangeArms
import Derived.DataReads
import Derived.WideShapes
import Derived.Test.YthglkoddmpicdaaTsTopSearched3
import Derived.Test.YthglkoddmpicdaaTsTopSearched17
import Derived.Test.YthglkoddmpicdaaTsTopSearched12
import Derived.Test.YthglkoddmpicdaaTsTopSearched18
import Derived.Test.YthglkoddmpicdaaTsTopSearched13
import Derived.Test.YthglkoddmpicdaaTsTopSearched16
set_option linter.unusedVariables false
set_option linter.unusedSimpArgs false
section
-- PRINTED BY print.sh 35421559b90ae4d0a3588c463048766b98c2df88dd9212a6774a882060cdf62d: not written by this session
-- PRINTED WORDS (module Derived/Print/Sized.lean): go-gate-2's, for the rows of laws over slices: an AI agent of Go's test side, Tue Nov 17 2026; no person has read it. Lean checks it.
namespace Go.Proofs.YthglkoddmpicdaaW.PrintWords
open Go.ChangeShapes Go.WideShapes
end Go.Proofs.YthglkoddmpicdaaW.PrintWords
end
section
/- What is read of an argument of a law: a datum of a type reads as a value of its kind; its whole numbers are of their kind, and its slices are within the reach. No condition. -/
namespace Go.Proofs.YthglkoddmpicdaaW.Opens
open Go.RowKit Go.Proofs.YthglkoddmpicdaaW.PrintWords Go.Deep Go.ChangeShapes Go.WideShapes
set_option linter.unusedVariables false
section
variable {H : Type} {enc : TypeId × Value → H} {P : Program}

/-- A datum of type t reads as a value of the kind K of which G holds. -/
def Opens {α : Type} (enc : TypeId × Value → H) (P : Program) (t : TypeId) (K : Kd α) (G : α → Prop) : Prop :=
 ∀ (w : World) (fuel : Nat) (cs : List Value) (x : DataW H × List MemPlace), DataW.trod enc P w 0 (fun _ => true) true fuel t cs = some x → (DataW.weights P t x.1).all (· ≤ reachBytes) = true → ∃ y, K.K w y cs ∧ G y

theorem Opens.int {t : TypeId} {k : IntKind} (hu : P.underlying t = some (.int k)) : Opens enc P t (Kd.int k) (fun n => (Lit.int k n).wf = true) := by
 intro w fuel cs x h _
 cases fuel with
 | zero => simp [DataW.trod] at h
 | succ n =>
  unfold DataW.trod at h
  rw [hu] at h
  split at h <;> simp_all
  obtain ⟨⟨rfl, hw⟩, _⟩ := h
  rename_i n _ _
  exact ⟨_, rfl, hw⟩
theorem Opens.bool {t : TypeId} (hu : P.underlying t = some .bool) : Opens enc P t Kd.bool (fun _ => True) := by
 intro w fuel cs x h _
 cases fuel with
 | zero => simp [DataW.trod] at h
 | succ n =>
  unfold DataW.trod at h
  rw [hu] at h
  split at h <;> simp_all
  rename_i b _
  cases b
  ·exact .inl rfl
  ·exact .inr rfl

/-- The fields from offset off on. -/
def OpensFs {α : Type} (enc : TypeId × Value → H) (P : Program) (off : Nat) (fs : List Field) (K : Kd α) (G : α → Prop) : Prop :=
 ∀ (w : World) (fuel : Nat) (cs : List Value) (xs : List (DataW H × List MemPlace)), cs.length = off + K.sz → xs.length = fs.length →
  (∀ (i : Nat) (f : Field), fs[i]? = some f → DataW.trod enc P w 0 (fun _ => true) true fuel f.type ((cs.drop f.offset).take (P.cellsOf f.type)) = xs[i]?) →
  (DataW.weightsEach P (fs.map (·.type)) (xs.map (·.1))).all (· ≤ reachBytes) = true → ∃ y, K.K w y (cs.drop off) ∧ G y

theorem OpensFs.one {α : Type} {off : Nat} {f : Field} {K : Kd α} {G : α → Prop} (hoff : f.offset = off) (hsz : P.cellsOf f.type = K.sz) (h : Opens enc P f.type K G) : OpensFs enc P off [f] K G := by
 intro w fuel cs xs hl hx hi hw
 obtain ⟨x, rfl⟩ : ∃ x, xs = [x] := by
  match xs, hx with
  | [x], _ => exact ⟨x, rfl⟩
 have h1 := hi 0 f rfl
 rw [hoff, hsz, List.take_of_length_le (by simp; omega)] at h1
 exact h w fuel _ x h1 (by simpa [DataW.weightsEach] using hw)
theorem OpensFs.cons {α β : Type} {off : Nat} {f : Field} {fs : List Field} {K : Kd α} {G : α → Prop} {K' : Kd β} {G' : β → Prop} (hoff : f.offset = off) (hsz : P.cellsOf f.type = K.sz) (h : Opens enc P f.type K G) (h' : OpensFs enc P (off + K.sz) fs K' G') :
  OpensFs enc P off (f :: fs) (Kd.pair K K') (fun y => G y.1 ∧ G' y.2) := by
 intro w fuel cs xs hl hx hi hw
 obtain ⟨x, xs', rfl⟩ : ∃ x xs', xs = x :: xs' := by
  match xs, hx with
  | x :: xs', _ => exact ⟨x, xs', rfl⟩
 have hl2 : cs.length = off + (K.sz + K'.sz) := hl
 have h1 := hi 0 f rfl
 rw [hoff, hsz] at h1
 simp only [List.map_cons, DataW.weightsEach, List.all_append, Bool.and_eq_true] at hw
 obtain ⟨y, hy, gy⟩ := h w fuel _ x h1 hw.1
 obtain ⟨y', hy', gy'⟩ := h' w fuel cs xs' (by omega) (by simpa using hx) (fun i g hg => by simpa using hi (i + 1) g (by simpa using hg)) hw.2
 refine ⟨(y, y'), ⟨_, _, ?_, hy, hy'⟩, gy, gy'⟩
 rw [← List.drop_drop, List.take_append_drop]
theorem Opens.struct {α β : Type} {t : TypeId} {fs : Array Field} {K : Kd α} {G : α → Prop} {f : β → α} (g : α → β) (hu : P.underlying t = some (.struct fs)) (hsz : P.cellsOf t = K.sz) (hg : ∀ y, f (g y) = y) (h : OpensFs enc P 0 fs.toList K G) :
  Opens enc P t (Kd.iso K f) (fun z => G (f z)) := by
 intro w fuel cs x hx hw
 obtain ⟨xs, n, rfl, rfl, hl, hxl, hi⟩ := DataW.trod_struct hu hx
 obtain ⟨y, hy, gy⟩ := h w n cs xs (by omega) (by simpa using hxl) (fun i f hf => hi i f (by simpa using hf)) (by simpa [DataW.weights, hu] using hw)
 refine ⟨g y, ?_, by show G (f (g y)); rw [hg]; exact gy⟩
 show K.K w (f (g y)) cs
 rw [hg]
 simpa using hy

theorem list_of_lt {α : Type} {Q : Nat → α → Prop} : ∀ (n : Nat), (∀ i, i < n → ∃ y, Q i y) → ∃ ys : List α, ys.length = n ∧ ∀ i y, ys[i]? = some y → Q i y
 | 0, _ => ⟨[], rfl, fun i y h => by simp at h⟩
 | n + 1, h => by
  obtain ⟨ys, hl, hq⟩ := list_of_lt n (fun i hi => h i (by omega))
  obtain ⟨y, hy⟩ := h n (by omega)
  refine ⟨ys ++ [y], by simp [hl], fun i z hz => ?_⟩
  rw [List.getElem?_append] at hz
  split at hz
  ·exact hq i z hz
  ·rename_i hi
   obtain rfl : i = n := by
    have := (List.getElem?_eq_some_iff.1 hz).1
    simp at this
    omega
   simp [hl] at hz
   exact hz ▸ hy
theorem weightsAll_mem {e : TypeId} : ∀ {ds : List (DataW H)} {d : DataW H}, (DataW.weightsAll P e ds).all (· ≤ reachBytes) = true → d ∈ ds → (DataW.weights P e d).all (· ≤ reachBytes) = true
 | [], _, _, h => by cases h
 | a :: r, d, hw, h => by
  simp only [DataW.weightsAll, List.all_append, Bool.and_eq_true] at hw
  rcases List.mem_cons.1 h with rfl | h
  ·exact hw.1
  ·exact weightsAll_mem hw.2 h
theorem Opens.slice {α : Type} {t e : TypeId} (e' : Nat) {K : Kd α} {G : α → Prop} (hu : P.underlying t = some (.slice e)) (hsz : P.cellsOf e = K.sz) (h : Opens enc P e K G) :
  Opens enc P t (Kd.slice e' K) (fun ys => (∀ y ∈ ys, G y) ∧ ys.length * P.bytesOf e ≤ reachBytes) := by
 intro w fuel cs x hx hw
 rcases open_slice hu hx with ⟨rfl, rfl⟩ | ⟨a, len, cap, m, n, D, Pl, rfl, hb, hl, hm, hmm, rfl, hi⟩
 ·exact ⟨[], ⟨none, 0, rfl, by simp, ⟨rfl, by simp, fun h => by simp at h⟩⟩, by simp, by simp⟩
 ·have hmc : m = cap := by simpa using hmm
  subst hmc
  simp only [DataW.weights, hu, List.all_cons, List.all_append, Bool.and_eq_true, decide_eq_true_eq, List.length_map, List.length_range] at hw
  obtain ⟨ys, hyl, hys⟩ := list_of_lt (Q := fun i y => (∃ cs', w.cells? 0 (a.add (i * P.cellsOf e)) (P.cellsOf e) = some cs' ∧ K.K w y cs') ∧ G y) len (fun i hil => by
   obtain ⟨cs', hc, ht⟩ := hi i (by omega)
   obtain ⟨y, hy, gy⟩ := h w n cs' _ ht (weightsAll_mem hw.2.1 (List.mem_map.2 ⟨i, List.mem_range.2 hil, rfl⟩))
   exact ⟨y, ⟨cs', hc, hy⟩, gy⟩)
  refine ⟨ys, ⟨some a, m, by rw [hyl], by omega, hyl.trans hyl.symm |>.trans (by rfl), ?_, fun _ => ⟨a, rfl, fun j p hj => ?_⟩⟩, fun y hy => ?_, ?_⟩
  ·unfold maxLen at hm
   omega
  ·obtain ⟨⟨cs', hc, hk⟩, _⟩ := hys j p hj
   obtain ⟨_, hcl, hcell⟩ := World.cells?_some hc
   refine ⟨cs', by rw [hcl, hsz], hk, fun i u hu' => ?_⟩
   have hlt := (List.getElem?_eq_some_iff.1 hu').1
   rw [← Go.Deep.add_add, ← hsz, hcell i (by omega), hu']
  ·obtain ⟨j, hj⟩ := List.getElem?_of_mem hy
   exact (hys j y hj).2
  ·refine Nat.le_trans (Nat.mul_le_mul_right _ (show ys.length ≤ len + (m - len) by omega)) hw.1
/-- An argument of a law. -/
theorem Opens.arg {α : Type} {t : TypeId} {K : Kd α} {G : α → Prop} (h : Opens enc P t K G) {w : World} {v : Value} {d : DataW H} {p : List MemPlace} (ht : DataW.Trod enc P w 0 (fun _ => true) true t v d p)
  {ts : List TypeId} {ds : List (DataW H)} (hsz : (DataW.weightsEach P ts ds).all (· ≤ reachBytes) = true) {j : Nat} (hj : ts[j]? = some t) (hd : ds[j]? = some d) : ∃ y, K.K w y v.cells.toList ∧ G y := by
 obtain ⟨fuel, hf⟩ := ht
 exact h w fuel _ _ hf (List.all_eq_true.2 fun n hn => List.all_eq_true.1 hsz _ (DataW.weights_mem_each hj hd n hn))
end
end Go.Proofs.YthglkoddmpicdaaW.Opens
end
section
/- What is known of the arguments of the laws. -/
namespace Go.Proofs.Ythglkoddmpicdaa.Good
open Go.RowKit Go.Proofs.YthglkoddmpicdaaW.PrintWords Go.Proofs.YthglkoddmpicdaaW.PrintLast Go.Proofs.YthglkoddmpicdaaW.PrintMore Go.Proofs.Ythglkoddmpicdaa.Pr Go.Proofs.YthglkoddmpicdaaW.Opens
set_option linter.unusedVariables false
def W27 (x : S27) : Prop := (Lit.int .i64 x.f0).wf = true ∧ (Lit.int .i64 x.f1).wf = true
theorem opens27 {H : Type} {enc : TypeId × Value → H} : Opens enc Try.prog 27 k27 W27 := Opens.struct (fun p => ⟨p.1, p.2⟩) Try.underlying27 zq3 (fun _ => rfl) (OpensFs.cons rfl zq3 (Opens.int Try.underlying2) (OpensFs.one rfl zq3 (Opens.int Try.underlying2)))
def W33 (x : S33) : Prop := W27 x.f0 ∧ W27 x.f1
theorem opens33 {H : Type} {enc : TypeId × Value → H} : Opens enc Try.prog 33 k33 W33 := Opens.struct (fun p => ⟨p.1, p.2⟩) Try.underlying33 zq3 (fun _ => rfl) (OpensFs.cons rfl zq3 opens27 (OpensFs.one rfl zq3 opens27))
def W25 (x : S25) : Prop := (Lit.int .i64 x.f0).wf = true ∧ (Lit.int .i64 x.f1).wf = true ∧ (Lit.int .i64 x.f2).wf = true ∧ (Lit.int .i64 x.f3).wf = true ∧ (Lit.int .i64 x.f4).wf = true ∧ (Lit.int .i64 x.f5).wf = true ∧ (Lit.int .i64 x.f6).wf = true ∧ ((∀ y ∈ x.f7, True) ∧ x.f7.length * Try.prog.bytesOf 4 ≤ reachBytes) ∧ ((∀ y ∈ x.f8, W33 y) ∧ x.f8.length * Try.prog.bytesOf 33 ≤ reachBytes)
theorem opens25 {H : Type} {enc : TypeId × Value → H} : Opens enc Try.prog 25 k25 W25 := Opens.struct (fun p => ⟨p.1, p.2.1, p.2.2.1, p.2.2.2.1, p.2.2.2.2.1, p.2.2.2.2.2.1, p.2.2.2.2.2.2.1, p.2.2.2.2.2.2.2.1, p.2.2.2.2.2.2.2.2⟩) Try.underlying25 zq3 (fun _ => rfl) (OpensFs.cons rfl zq3 (Opens.int Try.underlying3) (OpensFs.cons rfl zq3 (Opens.int Try.underlying3) (OpensFs.cons rfl zq3 (Opens.int Try.underlying2) (OpensFs.cons rfl zq3 (Opens.int Try.underlying2) (OpensFs.cons rfl zq3 (Opens.int Try.underlying3) (OpensFs.cons rfl zq3 (Opens.int Try.underlying3) (OpensFs.cons rfl zq3 (Opens.int Try.underlying2) (OpensFs.cons rfl zq3 (Opens.slice 4 Try.underlying22 zq3 (Opens.bool Try.underlying4)) (OpensFs.one rfl zq3 (Opens.slice 33 Try.underlying23 zq3 opens33))))))))))
def W29 (x : S29) : Prop := W27 x.f0 ∧ W27 x.f1
theorem opens29 {H : Type} {enc : TypeId × Value → H} : Opens enc Try.prog 29 k29 W29 := Opens.struct (fun p => ⟨p.1, p.2⟩) Try.underlying29 zq3 (fun _ => rfl) (OpensFs.cons rfl zq3 opens27 (OpensFs.one rfl zq3 opens27))
def W41 (x : S41) : Prop := (Lit.int .i64 x.f0).wf = true ∧ (Lit.int .i64 x.f1).wf = true ∧ W27 x.f2 ∧ W27 x.f3 ∧ (Lit.int .i64 x.f4).wf = true
theorem opens41 {H : Type} {enc : TypeId × Value → H} : Opens enc Try.prog 41 k41 W41 := Opens.struct (fun p => ⟨p.1, p.2.1, p.2.2.1, p.2.2.2.1, p.2.2.2.2⟩) Try.underlying41 zq3 (fun _ => rfl) (OpensFs.cons rfl zq3 (Opens.int Try.underlying2) (OpensFs.cons rfl zq3 (Opens.int Try.underlying2) (OpensFs.cons rfl zq3 opens27 (OpensFs.cons rfl zq3 opens27 (OpensFs.one rfl zq3 (Opens.int Try.underlying2))))))
def W44 (x : S44) : Prop := W29 x.f0 ∧ (Lit.int .i64 x.f1).wf = true ∧ (Lit.int .i64 x.f2).wf = true
theorem opens44 {H : Type} {enc : TypeId × Value → H} : Opens enc Try.prog 44 k44 W44 := Opens.struct (fun p => ⟨p.1, p.2.1, p.2.2⟩) Try.underlying44 zq3 (fun _ => rfl) (OpensFs.cons rfl zq3 opens29 (OpensFs.cons rfl zq3 (Opens.int Try.underlying2) (OpensFs.one rfl zq3 (Opens.int Try.underlying2))))
def W76 (x : S76) : Prop := (Lit.int .i64 x.f0).wf = true ∧ (Lit.int .i64 x.f1).wf = true
theorem opens76 {H : Type} {enc : TypeId × Value → H} : Opens enc Try.prog 76 k76 W76 := Opens.struct (fun p => ⟨p.1, p.2⟩) Try.underlying76 zq3 (fun _ => rfl) (OpensFs.cons rfl zq3 (Opens.int Try.underlying3) (OpensFs.one rfl zq3 (Opens.int Try.underlying3)))
end Go.Proofs.Ythglkoddmpicdaa.Good
end
section
namespace Go.Proofs.Ythglkoddmpicdaa.Pr
open Go.RowKit Go.Proofs.YthglkoddmpicdaaW.PrintWords Go.Proofs.YthglkoddmpicdaaW.PrintLast Go.Proofs.YthglkoddmpicdaaW.PrintMore
attribute [local go_sem] max2_int min2_int max_two min_two max_four
set_option linter.unusedVariables false
set_option linter.unusedSimpArgs false

/-! ### isobathref01_Within: function 116 -/
end Go.Proofs.Ythglkoddmpicdaa.Pr
end
section
namespace Go.Proofs.Ythglkoddmpicdaa.Pr
open Go.RowKit Go.Proofs.YthglkoddmpicdaaW.PrintWords Go.Proofs.YthglkoddmpicdaaW.PrintLast Go.Proofs.YthglkoddmpicdaaW.PrintMore
attribute [local go_sem] max2_int min2_int max_two min_two max_four
set_option linter.unusedVariables false
set_option linter.unusedSimpArgs false

/-! ### isobathref01_Valid: function 115 -/
end Go.Proofs.Ythglkoddmpicdaa.Pr
end
section
namespace Go.Proofs.Ythglkoddmpicdaa.Pr
open Go.RowKit Go.Proofs.YthglkoddmpicdaaW.PrintWords Go.Proofs.YthglkoddmpicdaaW.PrintLast Go.Proofs.YthglkoddmpicdaaW.PrintMore
attribute [local go_sem] max2_int min2_int max_two min_two max_four
set_option linter.unusedVariables false
set_option linter.unusedSimpArgs false

/-! ### isobathref03_bounded: function 73 -/
end Go.Proofs.Ythglkoddmpicdaa.Pr
end
section
namespace Go.Proofs.Ythglkoddmpicdaa.Pr
open Go.RowKit Go.Proofs.YthglkoddmpicdaaW.PrintWords Go.Proofs.YthglkoddmpicdaaW.PrintLast Go.Proofs.YthglkoddmpicdaaW.PrintMore
attribute [local go_sem] max2_int min2_int max_two min_two max_four
set_option linter.unusedVariables false
set_option linter.unusedSimpArgs false

/-! ### isobathref03_CheckSea: function 21 -/
end Go.Proofs.Ythglkoddmpicdaa.Pr
end
section
namespace Go.Proofs.Ythglkoddmpicdaa.Pr
open Go.RowKit Go.Proofs.YthglkoddmpicdaaW.PrintWords Go.Proofs.YthglkoddmpicdaaW.PrintLast Go.Proofs.YthglkoddmpicdaaW.PrintMore
attribute [local go_sem] max2_int min2_int max_two min_two max_four
set_option linter.unusedVariables false
set_option linter.unusedSimpArgs false

/-! ### isobathref01_ValidBox: function 55 -/
end Go.Proofs.Ythglkoddmpicdaa.Pr
end
section
namespace Go.Proofs.Ythglkoddmpicdaa.Pr
open Go.RowKit Go.Proofs.YthglkoddmpicdaaW.PrintWords Go.Proofs.YthglkoddmpicdaaW.PrintLast Go.Proofs.YthglkoddmpicdaaW.PrintMore
attribute [local go_sem] max2_int min2_int max_two min_two max_four
set_option linter.unusedVariables false
set_option linter.unusedSimpArgs false

/-! ### isobathref03_inSea: function 56 -/
end Go.Proofs.Ythglkoddmpicdaa.Pr
end
section
namespace Go.Proofs.Ythglkoddmpicdaa.Pr
open Go.RowKit Go.Proofs.YthglkoddmpicdaaW.PrintWords Go.Proofs.YthglkoddmpicdaaW.PrintLast Go.Proofs.YthglkoddmpicdaaW.PrintMore
attribute [local go_sem] max2_int min2_int max_two min_two max_four
set_option linter.unusedVariables false
set_option linter.unusedSimpArgs false

/-! ### isobathref03_inTime: function 57 -/
end Go.Proofs.Ythglkoddmpicdaa.Pr
end
section
namespace Go.Proofs.Ythglkoddmpicdaa.Pr
open Go.RowKit Go.Proofs.YthglkoddmpicdaaW.PrintWords Go.Proofs.YthglkoddmpicdaaW.PrintLast Go.Proofs.YthglkoddmpicdaaW.PrintMore
attribute [local go_sem] max2_int min2_int max_two min_two max_four
set_option linter.unusedVariables false
set_option linter.unusedSimpArgs false

/-! ### isobathref03_common: function 158 -/
end Go.Proofs.Ythglkoddmpicdaa.Pr
end
section
namespace Go.Proofs.Ythglkoddmpicdaa.Pr
open Go.RowKit Go.Proofs.YthglkoddmpicdaaW.PrintWords Go.Proofs.YthglkoddmpicdaaW.PrintLast Go.Proofs.YthglkoddmpicdaaW.PrintMore
attribute [local go_sem] max2_int min2_int max_two min_two max_four
set_option linter.unusedVariables false
set_option linter.unusedSimpArgs false

/-! ### isobathref03_touches: function 117 -/
end Go.Proofs.Ythglkoddmpicdaa.Pr
end
section
namespace Go.Proofs.Ythglkoddmpicdaa.Pr
open Go.RowKit Go.Proofs.YthglkoddmpicdaaW.PrintWords Go.Proofs.YthglkoddmpicdaaW.PrintLast Go.Proofs.YthglkoddmpicdaaW.PrintMore
attribute [local go_sem] max2_int min2_int max_two min_two max_four
set_option linter.unusedVariables false
set_option linter.unusedSimpArgs false

/-! ### isobathref03_Cell: function 118 -/
end Go.Proofs.Ythglkoddmpicdaa.Pr
end
section
namespace Go.Proofs.Ythglkoddmpicdaa.Pr
open Go.RowKit Go.Proofs.YthglkoddmpicdaaW.PrintWords Go.Proofs.YthglkoddmpicdaaW.PrintLast Go.Proofs.YthglkoddmpicdaaW.PrintMore
attribute [local go_sem] max2_int min2_int max_two min_two max_four
set_option linter.unusedVariables false
set_option linter.unusedSimpArgs false

/-! ### isobathref03_hull: function 119 -/
end Go.Proofs.Ythglkoddmpicdaa.Pr
end
section
namespace Go.Proofs.Ythglkoddmpicdaa.Pr
open Go.RowKit Go.Proofs.YthglkoddmpicdaaW.PrintWords Go.Proofs.YthglkoddmpicdaaW.PrintLast Go.Proofs.YthglkoddmpicdaaW.PrintMore
attribute [local go_sem] max2_int min2_int max_two min_two max_four
set_option linter.unusedVariables false
set_option linter.unusedSimpArgs false

/-! ### isobathref03_at: function 58 -/
end Go.Proofs.Ythglkoddmpicdaa.Pr
end
section
namespace Go.Proofs.Ythglkoddmpicdaa.Pr
open Go.RowKit Go.Proofs.YthglkoddmpicdaaW.PrintWords Go.Proofs.YthglkoddmpicdaaW.PrintLast Go.Proofs.YthglkoddmpicdaaW.PrintMore
attribute [local go_sem] max2_int min2_int max_two min_two max_four
set_option linter.unusedVariables false
set_option linter.unusedSimpArgs false

/-! ### isobathref03_At: function 14 -/
end Go.Proofs.Ythglkoddmpicdaa.Pr
end
section
/- What the document's answer says of seas, vehicles and boxes: the same as the program. -/
namespace Go.Proofs.Ythglkoddmpicdaa.Gl
open Go.RowKit Go.Proofs.YthglkoddmpicdaaW.PrintWords Go.Proofs.YthglkoddmpicdaaW.PrintLast Go.Proofs.YthglkoddmpicdaaW.PrintMore Go.Proofs.Ythglkoddmpicdaa.Pr
set_option linter.unusedVariables false
theorem w64_id {x : Int} (h : -9223372036854775808 ≤ x ∧ x < 9223372036854775808) : wrap64 x = x := by unfold wrap64; omega
end Go.Proofs.Ythglkoddmpicdaa.Gl
end
section
/- What the document's answer says of boxes in boxes: the same as the program. -/
namespace Go.Proofs.Ythglkoddmpicdaa.Gl
open Go.RowKit Go.Proofs.YthglkoddmpicdaaW.PrintWords Go.Proofs.YthglkoddmpicdaaW.PrintLast Go.Proofs.YthglkoddmpicdaaW.PrintMore Go.Proofs.Ythglkoddmpicdaa.Pr
end Go.Proofs.Ythglkoddmpicdaa.Gl
end
section
/- Which cells a swarm has visited: what the program and the document's answer compute. -/
namespace Go.Proofs.Ythglkoddmpicdaa.Gl
open Go.RowKit Go.Proofs.YthglkoddmpicdaaW.PrintWords Go.Proofs.YthglkoddmpicdaaW.PrintLast Go.Proofs.YthglkoddmpicdaaW.PrintMore Go.Proofs.Ythglkoddmpicdaa.Pr
set_option linter.unusedVariables false
set_option linter.unusedSectionVars false
/-- A cell, as a box. -/
def cellV (s : Sea) (c : Int) : S29 := ⟨⟨(c % s.nx) * s.cell, (c % s.nx) * s.cell + s.cell⟩, ⟨(c / s.nx) * s.cell, (c / s.nx) * s.cell + s.cell⟩⟩
def visR (l : List S29) (x : S29) (acc : Int) : Int := l.foldl (fun a b => max a (insI b x)) acc
def visRs (rs : List (List S29)) (x : S29) (acc : Int) : Int := rs.foldl (fun a l => visR l x a) acc
def visL (s : Sea) (rs : List (List S29)) (c m : Nat) : List Int := (List.range' c m).map (fun (i : Nat) => visRs rs (cellV s (i : Int)) 0)
def firstE : List (List S29) → Int
 | [] => 0
 | l :: t => if boxesE l = 0 then firstE t else boxesE l
def runsE (rs : List (List S29)) : Int := if rs.length > 8 then 6 else if rs.any (fun x => decide (64 < x.length)) then 6 else firstE rs
/-- What Visited returns. -/
def VisX (s : Sea) (rs : List (List S29)) : List Int × Int := if seaE s = 0 then (if runsE rs = 0 then (visL s rs 0 (s.nx * s.ny).toNat, 0) else ([], runsE rs)) else ([], seaE s)
theorem seaE_n {s : Sea} (h : seaE s = 0) : SeaN s := by
 unfold seaE at h
 cases hb : seaB s with
 | false => rw [hb] at h; cases h
 | true =>
  unfold seaB at hb
  simp only [Bool.and_eq_true, btwB_iff] at hb
  obtain ⟨⟨⟨⟨⟨⟨⟨⟨⟨h1, h2⟩, h3⟩, h4⟩, h5⟩, h6⟩, h7⟩, _⟩, _⟩, _⟩ := hb
  exact ⟨h1, h2, h3, h4, h5, h6, h7⟩
section
variable (s : Sea) (hS : SeaN s) (rs : List (List S29)) (hrs : rs.length ≤ 8) (hlen : ∀ l ∈ rs, l.length ≤ 64)
include hS
theorem cell_num {c : Nat} (hc : c < 144) : 0 ≤ (c : Int) % s.nx ∧ (c : Int) % s.nx ≤ 144 ∧ 0 ≤ (c : Int) / s.nx ∧ (c : Int) / s.nx ≤ 144 ∧ 0 ≤ ((c : Int) % s.nx) * s.cell ∧ ((c : Int) % s.nx) * s.cell ≤ 144 * 65536 ∧ 0 ≤ ((c : Int) / s.nx) * s.cell ∧ ((c : Int) / s.nx) * s.cell ≤ 144 * 65536 ∧ Int.tmod (c : Int) s.nx = (c : Int) % s.nx ∧ Int.tdiv (c : Int) s.nx = (c : Int) / s.nx := by
 have hn := hS.nx
 have hcl := hS.cell
 have d := div_in (x := (c : Int)) (c := s.nx) (by omega) (by omega)
 have r := mod_in (x := (c : Int)) (c := s.nx) (by omega)
 have m1 := mul_in (a := (c : Int) % s.nx) (b := s.cell) (m := 144) (n := 65536) r.1 (by omega) (by omega) hcl.2
 have m2 := mul_in (a := (c : Int) / s.nx) (b := s.cell) (m := 144) (n := 65536) d.1 (by omega) (by omega) hcl.2
 exact ⟨r.1, by omega, d.1, by omega, m1.1, m1.2, m2.1, m2.2, Int.tmod_eq_emod_of_nonneg (by omega), Int.tdiv_eq_ediv_of_nonneg (by omega)⟩
omit hS in
theorem rd_run {j : Nat} (hj : j < rs.length) : rd_L9 rs (j : Int) = rs[j] := by
 unfold rd_L9
 simp [hj]
omit hS in
theorem rd_box {l : List S29} {i : Nat} (hi : i < l.length) : rd_T29 l (i : Int) = l[i] := by
 unfold rd_T29
 simp [hi]
/-- The program's inner loop: the boxes of a run. -/
theorem p3_go (pre suf : List Int) (N : Int) (hp : pre.length < 144) (j : Nat) (run : List S29) (hrun : run.length ≤ 64) (cl : S29) (G : Int → Option (List Int × Int)) (F : Nat)
  (hG : ∀ K acc, F ≤ K → glider_Visited.l2 K rs (pre ++ acc :: suf) (pre.length : Int) N (pre.length : Int) rs (rs.length : Int) (wrap64 ((j : Int) + 1)) s.nx s.ny s.cell s.slot s.slots s.layers s.most s.shores s.currents cl.f0.f0 cl.f0.f1 cl.f1.f0 cl.f1.f1 = G acc) :
  ∀ (m i K : Nat) (acc : Int), i + m = run.length → F + m + 1 ≤ K → glider_Visited.l3 K rs (pre ++ acc :: suf) (pre.length : Int) N (pre.length : Int) rs (rs.length : Int) (j : Int) run (run.length : Int) (i : Int) s.nx s.ny s.cell s.slot s.slots s.layers s.most s.shores s.currents cl.f0.f0 cl.f0.f1 cl.f1.f0 cl.f1.f1 = G (visR (run.drop i) cl acc)
 | 0, i, K + 1, acc, h, hk => by
  rw [glider_Visited.l3, if_neg (by omega), List.drop_eq_nil_of_le (by omega)]
  exact hG K acc (by omega)
 | m + 1, i, K + 1, acc, h, hk => by
  have hi : i < run.length := by omega
  have ih := p3_go pre suf N hp j run hrun cl G F hG m (i + 1) K (max acc (insI run[i] cl)) (by omega) (by omega)
  have hin : glider_inside.f run[i].f0.f0 run[i].f0.f1 run[i].f1.f0 run[i].f1.f1 cl.f0.f0 cl.f0.f1 cl.f1.f0 cl.f1.f1 = some (insI run[i] cl) := rfl
  have hrd : rd (pre ++ acc :: suf) (pre.length : Int) = acc := by unfold rd; simp
  have hst : (pre ++ acc :: suf).set (pre.length : Int).toNat (mx acc (insI run[i] cl)) = pre ++ max acc (insI run[i] cl) :: suf := by rw [mx_max']; simp
  rw [glider_Visited.l3, if_pos (by omega), if_pos (by omega), if_pos (by omega), if_pos (by omega), if_pos (by rw [List.length_append, List.length_cons]; omega), rd_box hi, hin, Option.bind_some, hrd, hst, w64_id (x := (i : Int) + 1) (by omega), List.drop_eq_getElem_cons hi]
  exact ih
include hrs hlen in
theorem p2_go (pre suf : List Int) (N : Int) (hp : pre.length < 144) (cl : S29) (G : Int → Option (List Int × Int)) (F : Nat)
  (hG : ∀ K acc, F ≤ K → glider_Visited.l1 K rs (pre ++ acc :: suf) N (wrap64 ((pre.length : Int) + 1)) s.nx s.ny s.cell s.slot s.slots s.layers s.most s.shores s.currents = G acc) :
  ∀ (m j K : Nat) (acc : Int), j + m = rs.length → F + m * 67 + 1 ≤ K → glider_Visited.l2 K rs (pre ++ acc :: suf) (pre.length : Int) N (pre.length : Int) rs (rs.length : Int) (j : Int) s.nx s.ny s.cell s.slot s.slots s.layers s.most s.shores s.currents cl.f0.f0 cl.f0.f1 cl.f1.f0 cl.f1.f1 = G (visRs (rs.drop j) cl acc)
 | 0, j, K + 1, acc, h, hk => by
  rw [glider_Visited.l2, if_neg (by omega), List.drop_eq_nil_of_le (by omega)]
  exact hG K acc (by omega)
 | m + 1, j, K + 1, acc, h, hk => by
  have hj : j < rs.length := by omega
  have ih := fun K' acc' (hK : F + m * 67 + 1 ≤ K') => p2_go pre suf N hp cl G F hG m (j + 1) K' acc' (by omega) hK
  have hr := hlen _ (List.getElem_mem hj)
  rw [glider_Visited.l2, if_pos (by omega), if_pos (by omega), if_pos (by omega), rd_run rs hj, List.drop_eq_getElem_cons hj]
  have h3 := p3_go s hS rs pre suf N hp j rs[j] hr cl (fun a => G (visRs (rs.drop (j + 1)) cl a)) (F + m * 67 + 1) (fun K' acc' hK => by rw [w64_id (x := (j : Int) + 1) (by omega)]; exact ih K' acc' hK) rs[j].length 0 K acc (by omega) (by omega)
  rw [List.drop_zero] at h3
  exact h3
include hrs hlen in
theorem p1_go : ∀ (m K : Nat) (pre : List Int), pre.length + m ≤ 144 → 540 * m + 1 ≤ K → glider_Visited.l1 K rs (pre ++ List.replicate m 0) ((pre.length + m : Nat) : Int) (pre.length : Int) s.nx s.ny s.cell s.slot s.slots s.layers s.most s.shores s.currents = some (pre ++ visL s rs pre.length m, 0) := by
 intro m
 induction m with
 | zero =>
  intro K pre h hk
  obtain ⟨K, rfl⟩ : ∃ z, K = z + 1 := ⟨K - 1, by omega⟩
  rw [glider_Visited.l1, if_neg (by omega)]
  rfl
 | succ m ihm =>
  intro K pre h hk
  obtain ⟨K, rfl⟩ : ∃ z, K = z + 1 := ⟨K - 1, by omega⟩
  have hf : 540 * m + 1 + rs.length * 67 + 1 ≤ K := by omega
  have hc : pre.length < 144 := by omega
  obtain ⟨h1, h2, h3, h4, h5, h6, h7, h8, e1, e2⟩ := cell_num s hS hc
  have hn := hS.nx
  have hcl := hS.cell
  rw [glider_Visited.l1, if_pos (by omega), if_neg (by omega), e1, e2, w64_id (x := (pre.length : Int) % s.nx * s.cell) (by omega), w64_id (x := (pre.length : Int) % s.nx * s.cell + s.cell) (by omega), w64_id (x := (pre.length : Int) / s.nx) (by omega), w64_id (x := (pre.length : Int) / s.nx * s.cell) (by omega), w64_id (x := (pre.length : Int) / s.nx * s.cell + s.cell) (by omega), List.replicate_succ]
  have hgo := p2_go s hS rs hrs hlen pre (List.replicate m 0) ((pre.length + (m + 1) : Nat) : Int) hc (cellV s pre.length) (fun a => some (pre ++ a :: visL s rs (pre.length + 1) m, 0)) (540 * m + 1) (fun K' acc' hK => by
   have ih := ihm K' (pre ++ [acc']) (by rw [List.length_append, List.length_singleton]; omega) hK
   rw [List.length_append, List.length_singleton, List.append_assoc, List.append_assoc, List.singleton_append, List.singleton_append] at ih
   rw [w64_id (x := (pre.length : Int) + 1) (by omega), show (pre.length : Int) + 1 = ((pre.length + 1 : Nat) : Int) from by omega, show pre.length + (m + 1) = pre.length + 1 + m from by omega]
   exact ih) rs.length 0 K 0 (by omega) hf
  rw [List.drop_zero] at hgo
  exact hgo
end
theorem boxes_len {l : List S29} (h : boxesE l = 0) : l.length ≤ 64 := by
 unfold boxesE at h
 by_cases q : l.length > 64
 ·rw [if_pos q] at h; cases h
 ·omega
theorem p0_go (s : Sea) (hS : SeaN s) (rs : List (List S29)) (hrs : rs.length ≤ 8) (hlen : ∀ l ∈ rs, l.length ≤ 64) : ∀ (m j K : Nat), j + m = rs.length → m + 90000 ≤ K → glider_Visited.l0 K rs rs (rs.length : Int) (j : Int) s.nx s.ny s.cell s.slot s.slots s.layers s.most s.shores s.currents = some (if firstE (rs.drop j) = 0 then (visL s rs 0 (s.nx * s.ny).toNat, 0) else ([], firstE (rs.drop j)))
 | 0, j, K + 1, h, hk => by
  have hx := mul_in (a := s.nx) (b := s.ny) (m := 12) (n := 12) (by have := hS.nx; omega) hS.nx.2 (by have := hS.ny; omega) hS.ny.2
  have hgo := p1_go s hS rs hrs hlen (s.nx * s.ny).toNat K [] (by simp only [List.length_nil]; omega) (by omega)
  rw [glider_Visited.l0, if_neg (by omega), w64_id (x := s.nx * s.ny) (by omega), if_pos (by omega), if_pos (by omega), Option.bind_some, List.drop_eq_nil_of_le (by omega), List.length_replicate]
  rw [List.nil_append, List.nil_append, List.length_nil, Nat.zero_add] at hgo
  exact hgo
 | m + 1, j, K + 1, h, hk => by
  have hj : j < rs.length := by omega
  have ih := p0_go s hS rs hrs hlen m (j + 1) K (by omega) (by omega)
  have hb : glider_checkBoxes.f rs[j] = some (boxesE rs[j]) := rfl
  rw [glider_Visited.l0, if_pos (by omega), if_pos (by omega), if_pos (by omega), rd_run rs hj, hb, Option.bind_some, w64_id (x := (j : Int) + 1) (by omega), show (j : Int) + 1 = ((j + 1 : Nat) : Int) from by omega, ih, List.drop_eq_getElem_cons hj, firstE]
  by_cases hz : boxesE rs[j] = 0
  ·rw [if_pos hz, if_pos hz]
  ·rw [if_neg hz, if_neg hz, if_neg hz]
theorem vis_some (s : Sea) (rs : List (List S29)) (K : Nat) (hk : 90100 ≤ K) : glider_Visited.f K s.nx s.ny s.cell s.slot s.slots s.layers s.most s.shores s.currents rs = some (VisX s rs) := by
 obtain ⟨K, rfl⟩ : ∃ z, K = z + 1 := ⟨K - 1, by omega⟩
 unfold glider_Visited.f VisX
 have hs : glider_CheckSea.f s.nx s.ny s.cell s.slot s.slots s.layers s.most s.shores s.currents = some (seaE s) := rfl
 rw [hs, Option.bind_some]
 by_cases h0 : seaE s = 0
 ·have hS := seaE_n h0
  rw [if_pos h0, if_pos h0]
  unfold runsE
  by_cases h8 : rs.length > 8
  ·rw [if_pos (show (rs.length : Int) > 8 by omega), if_pos h8, if_neg (by decide), glider_Visited.j0, if_pos rfl]
  ·rw [if_neg (show ¬((rs.length : Int) > 8) by omega), if_neg h8]
   unfold api_Box_70.f
   rw [Option.bind_some, glider_Visited.j0]
   cases hb : rs.any (fun x => decide (64 < x.length)) with
   | true => rfl
   | false =>
    have hlen : ∀ l ∈ rs, l.length ≤ 64 := by
     intro l hl
     have := List.any_eq_false.1 hb l hl
     simp only [decide_eq_true_eq] at this
     omega
    refine (if_neg (show ¬(false = true) by decide)).trans ?_
    have := p0_go s hS rs (by omega) hlen rs.length 0 K (by omega) (by omega)
    rw [List.drop_zero] at this
    exact this
 ·rw [if_neg h0, if_neg h0]
end Go.Proofs.Ythglkoddmpicdaa.Gl
end
section
/- Hulls of boxes, the cells that a box touches: what grows with what. Plain law, no program. -/
namespace Go.Proofs.Ythglkoddmpicdaa.Gl
open Go.RowKit Go.Proofs.YthglkoddmpicdaaW.PrintWords Go.Proofs.YthglkoddmpicdaaW.PrintLast Go.Proofs.YthglkoddmpicdaaW.PrintMore Go.Proofs.Ythglkoddmpicdaa.Pr
set_option linter.unusedVariables false
/-- A box lies in another. -/
def SubB (a b : S29) : Prop := b.f0.f0 ≤ a.f0.f0 ∧ a.f0.f1 ≤ b.f0.f1 ∧ b.f1.f0 ≤ a.f1.f0 ∧ a.f1.f1 ≤ b.f1.f1
theorem SubB.rfl' (a : S29) : SubB a a := ⟨Int.le_refl _, Int.le_refl _, Int.le_refl _, Int.le_refl _⟩
theorem SubB.trans {a b c : S29} (h : SubB a b) (k : SubB b c) : SubB a c := by unfold SubB at *; omega
theorem hullB_up {a b : S29} : SubB a (hullB a b) ∧ SubB b (hullB a b) := by
 unfold SubB hullB
 dsimp only
 omega
theorem hullB_low {a b c : S29} (h : SubB a c) (k : SubB b c) : SubB (hullB a b) c := by
 unfold SubB hullB at *
 dsimp only
 omega
theorem hull_fold : ∀ (l : List S29) (z : S29), ∃ y, l.foldl hullO (some z) = some y ∧ (SubB z y ∧ ∀ a ∈ l, SubB a y) ∧ ∀ b, SubB z b → (∀ a ∈ l, SubB a b) → SubB y b
 | [], z => ⟨z, rfl, ⟨SubB.rfl' z, fun a h => by cases h⟩, fun b h _ => h⟩
 | x :: l, z => by
  obtain ⟨y, h, ⟨h1, h2⟩, h3⟩ := hull_fold l (hullB z x)
  refine ⟨y, h, ⟨hullB_up.1.trans h1, fun a ha => ?_⟩, fun b hb hl => h3 b (hullB_low hb (hl x (List.mem_cons_self ..))) fun a ha => hl a (List.mem_cons_of_mem _ ha)⟩
  rcases List.mem_cons.1 ha with rfl | ha
  ·exact hullB_up.2.trans h1
  ·exact h2 a ha
theorem hull_of {l : List S29} (h : l ≠ []) : ∃ y, hullL l = some y ∧ (∀ a ∈ l, SubB a y) ∧ ∀ b, (∀ a ∈ l, SubB a b) → SubB y b := by
 cases l with
 | nil => exact absurd rfl h
 | cons x l =>
  obtain ⟨y, h, ⟨h1, h2⟩, h3⟩ := hull_fold l x
  refine ⟨y, h, fun a ha => ?_, fun b hl => h3 b (hl x (List.mem_cons_self ..)) fun a ha => hl a (List.mem_cons_of_mem _ ha)⟩
  rcases List.mem_cons.1 ha with rfl | ha
  ·exact h1
  ·exact h2 a ha
theorem outV_mono {l l' : List S29} (h : l ≠ []) (hs : ∀ a ∈ l, ∃ b ∈ l', SubB a b) : SubB (outV l) (outV l') := by
 obtain ⟨y, e, h1, h2⟩ := hull_of h
 have h' : l' ≠ [] := by
  intro e'
  cases l with
  | nil => exact h rfl
  | cons x l =>
   obtain ⟨b, hb, _⟩ := hs x (List.mem_cons_self ..)
   rw [e'] at hb; cases hb
 obtain ⟨y', e', h1', h2'⟩ := hull_of h'
 unfold outV
 rw [e, e']
 exact h2 y' fun a ha => by
  obtain ⟨b, hb, hs⟩ := hs a ha
  exact hs.trans (h1' b hb)
theorem mem_allT {nx i0 k0 c : Int} {n m : Nat} : c ∈ allT nx i0 n k0 m ↔ ∃ r : Nat, r < m ∧ ∃ j : Nat, j < n ∧ c = (k0 + (r : Int)) * nx + (i0 + (j : Int)) := by
 unfold allT rowT
 simp only [List.mem_flatMap, List.mem_range, List.mem_map]
 constructor
 ·rintro ⟨r, hr, j, hj, rfl⟩
  exact ⟨r, hr, j, hj, rfl⟩
 ·rintro ⟨r, hr, j, hj, rfl⟩
  exact ⟨r, hr, j, hj, rfl⟩
/-- The cells of a range of columns and a range of rows. -/
theorem mem_cells {nx a b c d k : Int} : k ∈ allT nx a (b + 1 - a).toNat c (d + 1 - c).toNat ↔ ∃ r i : Int, (c ≤ r ∧ r ≤ d) ∧ (a ≤ i ∧ i ≤ b) ∧ k = r * nx + i := by
 rw [mem_allT]
 constructor
 ·rintro ⟨r, hr, j, hj, rfl⟩
  exact ⟨c + r, a + j, by omega, by omega, rfl⟩
 ·rintro ⟨r, i, hr, hi, rfl⟩
  exact ⟨(r - c).toNat, by omega, (i - a).toNat, by omega, by rw [show c + ((r - c).toNat : Int) = r from by omega, show a + ((i - a).toNat : Int) = i from by omega]⟩
theorem mem_touch {s : Sea} {x : S29} {k : Int} : k ∈ touchL s x ↔ ∃ r i : Int, ((numI s.cell x.f1 s.ny).1 ≤ r ∧ r ≤ (numI s.cell x.f1 s.ny).2) ∧ ((numI s.cell x.f0 s.nx).1 ≤ i ∧ i ≤ (numI s.cell x.f0 s.nx).2) ∧ k = r * s.nx + i := mem_cells
theorem first_le (c x : Int) : firstI c x ≤ x / c ∧ x / c - 1 ≤ firstI c x := by unfold firstI; split <;> omega
theorem first_mono {c x y : Int} (hc : 0 < c) (h : x ≤ y) : firstI c x ≤ firstI c y := by
 have h1 : x / c ≤ y / c := Int.ediv_le_ediv hc h
 by_cases hy : 0 < y / c ∧ y % c = 0
 ·by_cases e : x = y
  ·rw [e]; exact Int.le_refl _
  ·have h2 : y = c * (y / c) := by have := Int.emod_add_mul_ediv y c; omega
   have h3 : x / c < y / c := Int.ediv_lt_of_lt_mul hc (by rw [Int.mul_comm]; omega)
   have := (first_le c x).1
   have := (first_le c y).2
   omega
 ·have h4 : firstI c y = y / c := by unfold firstI; rw [if_neg hy]
  have := (first_le c x).1
  omega
theorem num_mono {c most : Int} {a b : S27} (hc : 0 < c) (h0 : b.f0 ≤ a.f0) (h1 : a.f1 ≤ b.f1) : (numI c b most).1 ≤ (numI c a most).1 ∧ (numI c a most).2 ≤ (numI c b most).2 := by
 have := first_mono hc h0
 have := Int.ediv_le_ediv hc h1
 unfold numI
 dsimp only
 omega
theorem num_some {c most : Int} {a : S27} (hc : 0 < c) (h : a.f0 ≤ a.f1) : (numI c a most).1 ≤ (numI c a most).2 := by
 have := (first_le c a.f0).1
 have := Int.ediv_le_ediv hc h
 unfold numI
 dsimp only
 omega
/-- Seas of one shape. -/
def SameS (s s' : Sea) : Prop := s'.nx = s.nx ∧ s'.ny = s.ny ∧ s'.cell = s.cell ∧ s'.slot = s.slot ∧ s'.slots = s.slots ∧ s'.layers = s.layers ∧ s'.most = s.most
theorem touch_mono {s s' : Sea} {x x' : S29} (hs : SameS s s') (hc : 0 < s.cell) (h : SubB x x') {k : Int} (hk : k ∈ touchL s x) : k ∈ touchL s' x' := by
 obtain ⟨h1, h2, h3, _⟩ := hs
 obtain ⟨r, i, hr, hi, e⟩ := mem_touch.1 hk
 obtain ⟨a0, a1⟩ := num_mono (c := s.cell) (most := s.nx) (a := x.f0) (b := x'.f0) hc h.1 h.2.1
 obtain ⟨b0, b1⟩ := num_mono (c := s.cell) (most := s.ny) (a := x.f1) (b := x'.f1) hc h.2.2.1 h.2.2.2
 refine mem_touch.2 ⟨r, i, ?_, ?_, ?_⟩
 ·rw [h3, h2]; omega
 ·rw [h3, h1]; omega
 ·rw [h1]; exact e
theorem touch_some {s : Sea} {x : S29} (hc : 0 < s.cell) (h0 : x.f0.f0 ≤ x.f0.f1) (h1 : x.f1.f0 ≤ x.f1.f1) : ∃ k, k ∈ touchL s x := by
 have a := num_some (c := s.cell) (most := s.nx) (a := x.f0) hc h0
 have b := num_some (c := s.cell) (most := s.ny) (a := x.f1) hc h1
 exact ⟨_, mem_touch.2 ⟨_, _, ⟨Int.le_refl _, b⟩, ⟨Int.le_refl _, a⟩, rfl⟩⟩
theorem mem_boxes {s : Sea} {x : S29} {layer j0 : Int} {q : Nat} {y : S29} : y ∈ boxesL s x layer j0 q ↔ ∃ r : Nat, r < q ∧ ∃ c ∈ touchL s x, y = curB s layer (j0 + (r : Int)) c := by
 unfold boxesL slotL
 simp only [List.mem_flatMap, List.mem_range, List.mem_map]
 constructor
 ·rintro ⟨r, hr, c, hc, rfl⟩
  exact ⟨r, hr, c, hc, rfl⟩
 ·rintro ⟨r, hr, c, hc, rfl⟩
  exact ⟨r, hr, c, hc, rfl⟩
theorem span_some {t u d : Int} (hd : 0 < d) (h : t < u) : 0 < ((u - 1) / d + 1 - t / d).toNat := by
 have := Int.ediv_le_ediv (a := t) (b := u - 1) hd (by omega)
 omega
/-- The currents that a box may meet grow with the box and with the sea. -/
theorem at_mono {s s' : Sea} {x x' : S29} {layer t u : Int} (hs : SameS s s') (hN : SeaN s) (hcu : ∀ i : Int, SubB ⟨(rd_T33 s.currents i).f0, (rd_T33 s.currents i).f1⟩ ⟨(rd_T33 s'.currents i).f0, (rd_T33 s'.currents i).f1⟩)
  (h : SubB x x') (h0 : x.f0.f0 ≤ x.f0.f1) (h1 : x.f1.f0 ≤ x.f1.f1) (ht : t < u) : SubB (atI s x layer t u) (atI s' x' layer t u) := by
 have hc : 0 < s.cell := by have := hN.cell; omega
 have hd : 0 < s.slot := by have := hN.slot; omega
 unfold atI
 rw [hs.2.2.2.1]
 refine outV_mono ?_ fun y hy => ?_
 ·obtain ⟨k, hk⟩ := touch_some (s := s) hc h0 h1
  exact List.ne_nil_of_mem (mem_boxes.2 ⟨0, span_some hd ht, k, hk, rfl⟩)
 ·obtain ⟨r, hr, c, hc', rfl⟩ := mem_boxes.1 hy
  refine ⟨_, mem_boxes.2 ⟨r, hr, c, touch_mono hs hc h hc', rfl⟩, ?_⟩
  unfold curB
  rw [hs.1, hs.2.1, hs.2.2.2.2.2.1]
  exact hcu _
theorem shift_mono {dive speed : Int} {a b u v : S27} (hd : 0 ≤ dive) (h : b.f0 ≤ a.f0 ∧ a.f1 ≤ b.f1) (k : v.f0 ≤ u.f0 ∧ u.f1 ≤ v.f1) : (shiftI dive b speed v).f0 ≤ (shiftI dive a speed u).f0 ∧ (shiftI dive a speed u).f1 ≤ (shiftI dive b speed v).f1 := by
 have h0 : (speed + 1000 * v.f0) * dive ≤ (speed + 1000 * u.f0) * dive := Int.mul_le_mul_of_nonneg_right (by omega) hd
 have h1 : (speed + 1000 * u.f1) * dive ≤ (speed + 1000 * v.f1) * dive := Int.mul_le_mul_of_nonneg_right (by omega) hd
 unfold shiftI downM upM
 dsimp only
 generalize (speed + 1000 * v.f0) * dive = A at *
 generalize (speed + 1000 * u.f0) * dive = B at *
 generalize (speed + 1000 * v.f1) * dive = C at *
 generalize (speed + 1000 * u.f1) * dive = D at *
 omega
theorem grown_mono {s s' : Sea} {v : Veh} {x x' : S29} (hs : SameS s s') (h : SubB x x') : SubB (grownI s v x) (grownI s' v x') := by
 unfold grownI
 rw [hs.2.2.2.2.2.2]
 unfold SubB at *
 dsimp only
 omega
theorem grown_ok {s : Sea} {v : Veh} {x : S29} (hS : SeaN s) (hV : VehN v) (hx : BoxOK x) : (grownI s v x).f0.f0 ≤ (grownI s v x).f0.f1 ∧ (grownI s v x).f1.f0 ≤ (grownI s v x).f1.f1 := by
 have := (mul_in (a := v.speed + s.most) (b := v.dive) (m := 10000) (n := 131072) (by have := hV.speed; have := hS.most; omega) (by have := hV.speed; have := hS.most; omega) (by have := hV.dive; omega) hV.dive.2).1
 unfold grownI
 obtain ⟨_, h0, h1⟩ := hx
 dsimp only
 omega
theorem ends_mono {s s' : Sea} {v : Veh} {x x' : S29} {t hd layer : Int} (hs : SameS s s') (hN : SeaN s) (hV : VehN v) (hx : BoxOK x) (hcu : ∀ i : Int, SubB ⟨(rd_T33 s.currents i).f0, (rd_T33 s.currents i).f1⟩ ⟨(rd_T33 s'.currents i).f0, (rd_T33 s'.currents i).f1⟩)
  (h : SubB x x') : SubB (endsI s v x (grownI s v x) t hd layer) (endsI s' v x' (grownI s' v x') t hd layer) := by
 obtain ⟨g0, g1⟩ := grown_ok (s := s) hN hV hx
 have ha := at_mono (layer := layer) (t := t) (u := t + v.dive) hs hN hcu (grown_mono (v := v) hs h) g0 g1 (by have := hV.dive; omega)
 have hq : 0 ≤ v.dive := by have := hV.dive; omega
 unfold endsI
 obtain ⟨p0, p1⟩ := shift_mono (speed := (dirI hd).1 * v.speed) hq ⟨h.1, h.2.1⟩ ⟨ha.1, ha.2.1⟩
 obtain ⟨q0, q1⟩ := shift_mono (speed := (dirI hd).2 * v.speed) hq ⟨h.2.2.1, h.2.2.2⟩ ⟨ha.2.2.1, ha.2.2.2⟩
 exact ⟨p0, p1, q0, q1⟩
end Go.Proofs.Ythglkoddmpicdaa.Gl
end
section
/- Runs end their dives in the hulls, and in boxes that are a proof. -/
namespace Go.Proofs.Ythglkoddmpicdaa.Gl
open Go.RowKit Go.Proofs.YthglkoddmpicdaaW.PrintWords Go.Proofs.YthglkoddmpicdaaW.PrintLast Go.Proofs.Ythglkoddmpicdaa.Pr
/-- A small box in order. -/
def Sm (b : S29) : Prop := (-4000000 ≤ b.f0.f0 ∧ b.f0.f0 ≤ b.f0.f1 ∧ b.f0.f1 ≤ 4000000) ∧ -4000000 ≤ b.f1.f0 ∧ b.f1.f0 ≤ b.f1.f1 ∧ b.f1.f1 ≤ 4000000
theorem ends_small {s : Sea} {v : Veh} {x : S29} {t hd layer : Int} (hS : SeaV s) (hV : VehN v) (hx : BoxOK x) (hr : reachE s v x t = 0) : Sm (endsI s v x (grownI s v x) t hd layer) := by
 obtain ⟨_, _, ⟨a0, a1⟩, b0, b1⟩ := reach_ok hS.n hV hx hr
 obtain ⟨_, o1, o2⟩ := hx
 have hdv := hV.dive
 have hsp := hV.speed
 have hdi := dirI_in hd
 have hai := at_in hS.cb (grownI s v x) layer t (t + v.dive)
 unfold endsI shiftI Sm downM upM
 dsimp only
 generalize atI s (grownI s v x) layer t (t + v.dive) = y at *
 generalize dirI hd = d at *
 obtain ⟨⟨y0, y1⟩, ⟨y2, y3⟩, ⟨y4, y5⟩, ⟨y6, y7⟩, y8, y9⟩ := hai
 have m0 := mul_abs (a := d.1) (b := v.speed) (m := 1000) (n := 5000) hdi.1.1 hdi.1.2 hsp.1 hsp.2 (by omega)
 have m1 := mul_abs (a := d.2) (b := v.speed) (m := 1000) (n := 5000) hdi.2.1 hdi.2.2 hsp.1 hsp.2 (by omega)
 generalize d.1 * v.speed = e at *
 generalize d.2 * v.speed = f at *
 have n0 := mul_abs (a := e + 1000 * y.f0.f0) (b := v.dive) (m := 10000000) (n := 131072) (by omega) (by omega) (by omega) (by omega) (by omega)
 have n1 := mul_abs (a := e + 1000 * y.f0.f1) (b := v.dive) (m := 10000000) (n := 131072) (by omega) (by omega) (by omega) (by omega) (by omega)
 have n2 := mul_abs (a := f + 1000 * y.f1.f0) (b := v.dive) (m := 10000000) (n := 131072) (by omega) (by omega) (by omega) (by omega) (by omega)
 have n3 := mul_abs (a := f + 1000 * y.f1.f1) (b := v.dive) (m := 10000000) (n := 131072) (by omega) (by omega) (by omega) (by omega) (by omega)
 have k0 := Int.mul_le_mul_of_nonneg_right (show e + 1000 * y.f0.f0 ≤ e + 1000 * y.f0.f1 by omega) (show 0 ≤ v.dive by omega)
 have k1 := Int.mul_le_mul_of_nonneg_right (show f + 1000 * y.f1.f0 ≤ f + 1000 * y.f1.f1 by omega) (show 0 ≤ v.dive by omega)
 generalize (e + 1000 * y.f0.f0) * v.dive = A at *
 generalize (e + 1000 * y.f0.f1) * v.dive = B at *
 generalize (f + 1000 * y.f1.f0) * v.dive = C at *
 generalize (f + 1000 * y.f1.f1) * v.dive = E at *
 clear m0 m1 hdi hdv hsp hr
 omega
theorem Sm.ok {b : S29} (h : Sm b) : BoxOK b := by unfold Sm at h; unfold BoxOK SmallB; omega
theorem Sm.hull {a b : S29} (h : Sm a) (k : Sm b) : Sm (hullB a b) := by
 unfold Sm at *
 unfold hullB
 dsimp only
 omega
theorem okS_of {a b : Int} (h : a ≤ b) (h0 : -4000000 ≤ a) (h1 : b ≤ 4000000) : okS a b = true := by rw [okS_iff]; omega
theorem Sm.boxB {b : S29} (h : Sm b) : boxB b = true := by
 unfold Sm at h
 unfold Gl.boxB
 rw [okS_of h.1.2.1 h.1.1 h.1.2.2, okS_of h.2.2.1 h.2.1 h.2.2.2]
 simp only [Bool.true_and, Bool.and_eq_true, btwB_iff]
 omega
theorem mem_crs {s : Sea} {c : S76} (hl : 1 ≤ s.layers) (h0 : 0 ≤ c.f0) (h1 : c.f0 ≤ 8) (h2 : 0 ≤ c.f1) (h3 : c.f1 < s.layers) : c ∈ crsL s := by
 unfold crsL allC rowC
 rw [List.mem_flatMap]
 refine ⟨c.f0.toNat, List.mem_range.2 (by omega), ?_⟩
 rw [List.mem_map]
 refine ⟨c.f1.toNat, List.mem_range.2 (by omega), ?_⟩
 obtain ⟨a, b⟩ := c
 dsimp only at *
 rw [Int.toNat_of_nonneg h0, Int.toNat_of_nonneg h2]
theorem hullP_up {s : Sea} {v : Veh} {x g : S29} {t : Int} : ∀ (l : List S76) (A : S29), SubB A (hullP s v x g t A l) ∧ ∀ c ∈ l, SubB (endsI s v x g t c.f0 c.f1) (hullP s v x g t A l)
 | [], A => ⟨SubB.rfl' A, fun c h => by cases h⟩
 | d :: l, A => by
  have ih := hullP_up (s := s) (v := v) (x := x) (g := g) (t := t) l (hullB A (endsI s v x g t d.f0 d.f1))
  have e : hullP s v x g t A (d :: l) = hullP s v x g t (hullB A (endsI s v x g t d.f0 d.f1)) l := rfl
  rw [e]
  refine ⟨hullB_up.1.trans ih.1, fun c hc => ?_⟩
  rcases List.mem_cons.1 hc with rfl | hc
  ·exact hullB_up.2.trans ih.1
  ·exact ih.2 c hc
theorem hullP_small {s : Sea} {v : Veh} {x : S29} {t : Int} (hS : SeaV s) (hV : VehN v) (hx : BoxOK x) (hr : reachE s v x t = 0) : ∀ (l : List S76) (A : S29), Sm A → Sm (hullP s v x (grownI s v x) t A l)
 | [], A, h => h
 | c :: l, A, h => hullP_small hS hV hx hr l _ (h.hull (ends_small hS hV hx hr))
theorem stepH_small {s : Sea} {v : Veh} {x : S29} {t : Int} (hS : SeaV s) (hV : VehN v) (hx : BoxOK x) (hr : reachE s v x t = 0) : Sm (stepH s v x t) := hullP_small hS hV hx hr _ _ (ends_small hS hV hx hr)
/-- Each dive from a box, by any course, ends in the next one. -/
def Chain (s : Sea) (v : Veh) : S29 → Int → List S29 → Prop
 | _, _, [] => True
 | y, t, b :: l => reachE s v y t = 0 ∧ BoxOK b ∧ (∀ c ∈ crsL s, SubB (endsI s v y (grownI s v y) t c.f0 c.f1) b) ∧ Chain s v b (t + v.dive) l
theorem hull_chain {s : Sea} {v : Veh} (hS : SeaV s) (hV : VehN v) : ∀ (n : Nat) (y : S29) (t : Int) (out : List S29), BoxOK y → (hullsI s v n y t out).2 = 0 → ∃ Bs, (hullsI s v n y t out).1 = out ++ Bs ∧ Bs.length = n ∧ Chain s v y t Bs ∧ ∀ b ∈ Bs, Sm b
 | 0, y, t, out, hy, h => ⟨[], by unfold hullsI; simp, rfl, trivial, fun b hb => by cases hb⟩
 | n + 1, y, t, out, hy, h => by
  unfold hullsI at h ⊢
  by_cases hr : reachE s v y t = 0
  case neg =>
   rw [if_pos hr] at h
   exact absurd h hr
  rw [if_neg (fun q => q hr)] at h ⊢
  have hsm := stepH_small hS hV hy hr
  obtain ⟨Bs, e, hl, hc, hb⟩ := hull_chain hS hV n _ _ _ hsm.ok h
  refine ⟨stepH s v y t :: Bs, by rw [e, List.append_assoc]; rfl, by rw [List.length_cons, hl], ⟨hr, hsm.ok, (hullP_up _ _).2, hc⟩, fun b hb2 => ?_⟩
  rcases List.mem_cons.1 hb2 with rfl | hb2
  ·exact hsm
  ·exact hb b hb2
theorem reach_five (s : Sea) (v : Veh) (x : S29) (t : Int) : reachE s v x t = 0 ∨ reachE s v x t = 5 := by
 unfold reachE
 split
 ·exact .inl rfl
 ·exact .inr rfl
theorem ran_out (s : Sea) (v : Veh) : ∀ (l : List S76) (x : S29) (t n : Int) (out : List S29), (ranI s v l x t n out).2.2 = 0 → (ranI s v l x t n out).2.1 = n + (l.length : Int) ∧ (ranI s v l x t n out).1.length = out.length + l.length ∧ out <+: (ranI s v l x t n out).1
 | [], x, t, n, out, h => by unfold ranI; exact ⟨by simp, by simp, List.prefix_refl _⟩
 | c :: l, x, t, n, out, h => by
  unfold ranI at h ⊢
  split at h
  ·rename_i hn
   exact absurd h hn
  ·rename_i hn
   rw [if_neg hn]
   obtain ⟨h1, h2, h3⟩ := ran_out s v l _ _ _ _ h
   exact ⟨by rw [h1, List.length_cons]; omega, by rw [h2]; simp only [List.length_append, List.length_cons, List.length_nil]; omega, (List.prefix_append _ _).trans h3⟩
theorem SameS.rfl' (s : Sea) : SameS s s := ⟨rfl, rfl, rfl, rfl, rfl, rfl, rfl⟩
/-- Each dive of a run ends in the box of the chain. -/
theorem ran_chain {s : Sea} {v : Veh} (hS : SeaV s) (hV : VehN v) : ∀ (l : List S76) (Bs : List S29) (x y : S29) (t n : Int) (out : List S29), l.all (crsB s.layers) = true → BoxOK x → SubB x y → Chain s v y t Bs → (ranI s v l x t n out).2.2 = 0 →
  ∀ (i : Nat) (r b : S29), (ranI s v l x t n out).1[out.length + i]? = some r → Bs[i]? = some b → SubB r b
 | [], Bs, x, y, t, n, out, _, _, _, _, _, i, r, b, hr, _ => by
  unfold ranI at hr
  have := (List.getElem?_eq_some_iff.1 hr).1
  dsimp only at this
  omega
 | c :: l, [], x, y, t, n, out, _, _, _, _, _, i, r, b, _, hb => by cases hb
 | c :: l, z :: Bs, x, y, t, n, out, hall, hx, hsub, ⟨hry, hz, hzc, hch⟩, hrun, i, r, b, hr, hb => by
  unfold ranI at hrun hr
  by_cases hD : diveE s v x t = 0
  case neg =>
   rw [if_pos hD] at hrun
   exact absurd hrun hD
  rw [if_neg (fun q => q hD)] at hrun hr
  rw [List.all_cons, Bool.and_eq_true] at hall
  obtain ⟨⟨hh0, hh1⟩, hl0, hl1⟩ := crsB_ok hS.n.layers.1 hall.1
  have hmem := mem_crs (s := s) (c := c) hS.n.layers.1 hh0 hh1 hl0 hl1
  have hdv : diveV s v x t c.f0 c.f1 = endsI s v x (grownI s v x) t c.f0 c.f1 := by unfold diveV; rw [if_pos hD]
  have hst : SubB (diveV s v x t c.f0 c.f1) z := by
   rw [hdv]
   exact (ends_mono (SameS.rfl' s) hS.n hV hx (fun j => SubB.rfl' _) hsub).trans (hzc c hmem)
  have hbx := dive_box (hd := c.f0) (layer := c.f1) hS hV hx hD
  cases i with
  | zero =>
   obtain ⟨_, _, w, hw⟩ := ran_out s v l _ _ _ _ hrun
   rw [← hw, Nat.add_zero, List.append_assoc, List.getElem?_append_right (Nat.le_refl _), Nat.sub_self] at hr
   rw [List.getElem?_cons_zero] at hb
   cases hb
   rw [List.singleton_append, List.getElem?_cons_zero] at hr
   cases hr
   exact hst
  | succ i =>
   rw [List.getElem?_cons_succ] at hb
   refine ran_chain hS hV l Bs _ z _ _ _ hall.2 hbx hst hch hrun i r b ?_ hb
   rw [List.length_append, List.length_singleton, Nat.add_assoc, Nat.add_comm 1 i]
   exact hr
end Go.Proofs.Ythglkoddmpicdaa.Gl
end
