/- Part 17 of the proof of TopCurrents: what the functions compute. No condition. -/
import Derived.SizedLaws
import Derived.ChangeSlices
import Derived.Deep.Slices
import Derived.ChangeArms
import Derived.DataReads
import Derived.WideShapes
import Derived.Test.YthglkoddmpicdaaTcTopCurrents3
import Derived.Test.YthglkoddmpicdaaTcTopCurrents15
import Derived.Test.YthglkoddmpicdaaTcTopCurrents9
import Derived.Test.YthglkoddmpicdaaTcTopCurrents14
set_option linter.unusedVariables false
set_option linter.unusedSimpArgs false
section
-- PRINTED BY print.sh 35421559b90ae4d0a3588c463048766b98c2df88dd9212a6774a882060cdf62d: not written by this session
-- PRINTED WORDS (module Derived/Print/Sized.lean): go-gate-2's, for the rows of laws over slices: an AI agent of Go's test side, Tue Nov 17 2026; no person has read it. Lean checks it.
namespace Go.Proofs.YthglkoddmpicdaaW.PrintWords
open Go.ChangeShapes Go.WideShapes
end Go.Proofs.YthglkoddmpicdaaW.PrintWords
end
section
/- What is read of an argument of a law: a datum of a type reads as a value of its kind; its whole numbers are of their kind, and its slices are within the reach. No condition. -/
namespace Go.Proofs.YthglkoddmpicdaaW.Opens
open Go.RowKit Go.Proofs.YthglkoddmpicdaaW.PrintWords Go.Deep Go.ChangeShapes Go.WideShapes
set_option linter.unusedVariables false
section
variable {H : Type} {enc : TypeId × Value → H} {P : Program}

/-- A datum of type t reads as a value of the kind K of which G holds. -/
def Opens {α : Type} (enc : TypeId × Value → H) (P : Program) (t : TypeId) (K : Kd α) (G : α → Prop) : Prop :=
 ∀ (w : World) (fuel : Nat) (cs : List Value) (x : DataW H × List MemPlace), DataW.trod enc P w 0 (fun _ => true) true fuel t cs = some x → (DataW.weights P t x.1).all (· ≤ reachBytes) = true → ∃ y, K.K w y cs ∧ G y

theorem Opens.int {t : TypeId} {k : IntKind} (hu : P.underlying t = some (.int k)) : Opens enc P t (Kd.int k) (fun n => (Lit.int k n).wf = true) := by
 intro w fuel cs x h _
 cases fuel with
 | zero => simp [DataW.trod] at h
 | succ n =>
  unfold DataW.trod at h
  rw [hu] at h
  split at h <;> simp_all
  obtain ⟨⟨rfl, hw⟩, _⟩ := h
  rename_i n _ _
  exact ⟨_, rfl, hw⟩
theorem Opens.bool {t : TypeId} (hu : P.underlying t = some .bool) : Opens enc P t Kd.bool (fun _ => True) := by
 intro w fuel cs x h _
 cases fuel with
 | zero => simp [DataW.trod] at h
 | succ n =>
  unfold DataW.trod at h
  rw [hu] at h
  split at h <;> simp_all
  rename_i b _
  cases b
  ·exact .inl rfl
  ·exact .inr rfl

/-- The fields from offset off on. -/
def OpensFs {α : Type} (enc : TypeId × Value → H) (P : Program) (off : Nat) (fs : List Field) (K : Kd α) (G : α → Prop) : Prop :=
 ∀ (w : World) (fuel : Nat) (cs : List Value) (xs : List (DataW H × List MemPlace)), cs.length = off + K.sz → xs.length = fs.length →
  (∀ (i : Nat) (f : Field), fs[i]? = some f → DataW.trod enc P w 0 (fun _ => true) true fuel f.type ((cs.drop f.offset).take (P.cellsOf f.type)) = xs[i]?) →
  (DataW.weightsEach P (fs.map (·.type)) (xs.map (·.1))).all (· ≤ reachBytes) = true → ∃ y, K.K w y (cs.drop off) ∧ G y

theorem OpensFs.one {α : Type} {off : Nat} {f : Field} {K : Kd α} {G : α → Prop} (hoff : f.offset = off) (hsz : P.cellsOf f.type = K.sz) (h : Opens enc P f.type K G) : OpensFs enc P off [f] K G := by
 intro w fuel cs xs hl hx hi hw
 obtain ⟨x, rfl⟩ : ∃ x, xs = [x] := by
  match xs, hx with
  | [x], _ => exact ⟨x, rfl⟩
 have h1 := hi 0 f rfl
 rw [hoff, hsz, List.take_of_length_le (by simp; omega)] at h1
 exact h w fuel _ x h1 (by simpa [DataW.weightsEach] using hw)
theorem OpensFs.cons {α β : Type} {off : Nat} {f : Field} {fs : List Field} {K : Kd α} {G : α → Prop} {K' : Kd β} {G' : β → Prop} (hoff : f.offset = off) (hsz : P.cellsOf f.type = K.sz) (h : Opens enc P f.type K G) (h' : OpensFs enc P (off + K.sz) fs K' G') :
  OpensFs enc P off (f :: fs) (Kd.pair K K') (fun y => G y.1 ∧ G' y.2) := by
 intro w fuel cs xs hl hx hi hw
 obtain ⟨x, xs', rfl⟩ : ∃ x xs', xs = x :: xs' := by
  match xs, hx with
  | x :: xs', _ => exact ⟨x, xs', rfl⟩
 have hl2 : cs.length = off + (K.sz + K'.sz) := hl
 have h1 := hi 0 f rfl
 rw [hoff, hsz] at h1
 simp only [List.map_cons, DataW.weightsEach, List.all_append, Bool.and_eq_true] at hw
 obtain ⟨y, hy, gy⟩ := h w fuel _ x h1 hw.1
 obtain ⟨y', hy', gy'⟩ := h' w fuel cs xs' (by omega) (by simpa using hx) (fun i g hg => by simpa using hi (i + 1) g (by simpa using hg)) hw.2
 refine ⟨(y, y'), ⟨_, _, ?_, hy, hy'⟩, gy, gy'⟩
 rw [← List.drop_drop, List.take_append_drop]
theorem Opens.struct {α β : Type} {t : TypeId} {fs : Array Field} {K : Kd α} {G : α → Prop} {f : β → α} (g : α → β) (hu : P.underlying t = some (.struct fs)) (hsz : P.cellsOf t = K.sz) (hg : ∀ y, f (g y) = y) (h : OpensFs enc P 0 fs.toList K G) :
  Opens enc P t (Kd.iso K f) (fun z => G (f z)) := by
 intro w fuel cs x hx hw
 obtain ⟨xs, n, rfl, rfl, hl, hxl, hi⟩ := DataW.trod_struct hu hx
 obtain ⟨y, hy, gy⟩ := h w n cs xs (by omega) (by simpa using hxl) (fun i f hf => hi i f (by simpa using hf)) (by simpa [DataW.weights, hu] using hw)
 refine ⟨g y, ?_, by show G (f (g y)); rw [hg]; exact gy⟩
 show K.K w (f (g y)) cs
 rw [hg]
 simpa using hy

theorem list_of_lt {α : Type} {Q : Nat → α → Prop} : ∀ (n : Nat), (∀ i, i < n → ∃ y, Q i y) → ∃ ys : List α, ys.length = n ∧ ∀ i y, ys[i]? = some y → Q i y
 | 0, _ => ⟨[], rfl, fun i y h => by simp at h⟩
 | n + 1, h => by
  obtain ⟨ys, hl, hq⟩ := list_of_lt n (fun i hi => h i (by omega))
  obtain ⟨y, hy⟩ := h n (by omega)
  refine ⟨ys ++ [y], by simp [hl], fun i z hz => ?_⟩
  rw [List.getElem?_append] at hz
  split at hz
  ·exact hq i z hz
  ·rename_i hi
   obtain rfl : i = n := by
    have := (List.getElem?_eq_some_iff.1 hz).1
    simp at this
    omega
   simp [hl] at hz
   exact hz ▸ hy
theorem weightsAll_mem {e : TypeId} : ∀ {ds : List (DataW H)} {d : DataW H}, (DataW.weightsAll P e ds).all (· ≤ reachBytes) = true → d ∈ ds → (DataW.weights P e d).all (· ≤ reachBytes) = true
 | [], _, _, h => by cases h
 | a :: r, d, hw, h => by
  simp only [DataW.weightsAll, List.all_append, Bool.and_eq_true] at hw
  rcases List.mem_cons.1 h with rfl | h
  ·exact hw.1
  ·exact weightsAll_mem hw.2 h
theorem Opens.slice {α : Type} {t e : TypeId} (e' : Nat) {K : Kd α} {G : α → Prop} (hu : P.underlying t = some (.slice e)) (hsz : P.cellsOf e = K.sz) (h : Opens enc P e K G) :
  Opens enc P t (Kd.slice e' K) (fun ys => (∀ y ∈ ys, G y) ∧ ys.length * P.bytesOf e ≤ reachBytes) := by
 intro w fuel cs x hx hw
 rcases open_slice hu hx with ⟨rfl, rfl⟩ | ⟨a, len, cap, m, n, D, Pl, rfl, hb, hl, hm, hmm, rfl, hi⟩
 ·exact ⟨[], ⟨none, 0, rfl, by simp, ⟨rfl, by simp, fun h => by simp at h⟩⟩, by simp, by simp⟩
 ·have hmc : m = cap := by simpa using hmm
  subst hmc
  simp only [DataW.weights, hu, List.all_cons, List.all_append, Bool.and_eq_true, decide_eq_true_eq, List.length_map, List.length_range] at hw
  obtain ⟨ys, hyl, hys⟩ := list_of_lt (Q := fun i y => (∃ cs', w.cells? 0 (a.add (i * P.cellsOf e)) (P.cellsOf e) = some cs' ∧ K.K w y cs') ∧ G y) len (fun i hil => by
   obtain ⟨cs', hc, ht⟩ := hi i (by omega)
   obtain ⟨y, hy, gy⟩ := h w n cs' _ ht (weightsAll_mem hw.2.1 (List.mem_map.2 ⟨i, List.mem_range.2 hil, rfl⟩))
   exact ⟨y, ⟨cs', hc, hy⟩, gy⟩)
  refine ⟨ys, ⟨some a, m, by rw [hyl], by omega, hyl.trans hyl.symm |>.trans (by rfl), ?_, fun _ => ⟨a, rfl, fun j p hj => ?_⟩⟩, fun y hy => ?_, ?_⟩
  ·unfold maxLen at hm
   omega
  ·obtain ⟨⟨cs', hc, hk⟩, _⟩ := hys j p hj
   obtain ⟨_, hcl, hcell⟩ := World.cells?_some hc
   refine ⟨cs', by rw [hcl, hsz], hk, fun i u hu' => ?_⟩
   have hlt := (List.getElem?_eq_some_iff.1 hu').1
   rw [← Go.Deep.add_add, ← hsz, hcell i (by omega), hu']
  ·obtain ⟨j, hj⟩ := List.getElem?_of_mem hy
   exact (hys j y hj).2
  ·refine Nat.le_trans (Nat.mul_le_mul_right _ (show ys.length ≤ len + (m - len) by omega)) hw.1
/-- An argument of a law. -/
theorem Opens.arg {α : Type} {t : TypeId} {K : Kd α} {G : α → Prop} (h : Opens enc P t K G) {w : World} {v : Value} {d : DataW H} {p : List MemPlace} (ht : DataW.Trod enc P w 0 (fun _ => true) true t v d p)
  {ts : List TypeId} {ds : List (DataW H)} (hsz : (DataW.weightsEach P ts ds).all (· ≤ reachBytes) = true) {j : Nat} (hj : ts[j]? = some t) (hd : ds[j]? = some d) : ∃ y, K.K w y v.cells.toList ∧ G y := by
 obtain ⟨fuel, hf⟩ := ht
 exact h w fuel _ _ hf (List.all_eq_true.2 fun n hn => List.all_eq_true.1 hsz _ (DataW.weights_mem_each hj hd n hn))
end
end Go.Proofs.YthglkoddmpicdaaW.Opens
end
section
/- What is known of the arguments of the laws. -/
namespace Go.Proofs.Ythglkoddmpicdaa.Good
open Go.RowKit Go.Proofs.YthglkoddmpicdaaW.PrintWords Go.Proofs.YthglkoddmpicdaaW.PrintLast Go.Proofs.YthglkoddmpicdaaW.PrintMore Go.Proofs.Ythglkoddmpicdaa.Pr Go.Proofs.YthglkoddmpicdaaW.Opens
set_option linter.unusedVariables false
def W27 (x : S27) : Prop := (Lit.int .i64 x.f0).wf = true ∧ (Lit.int .i64 x.f1).wf = true
theorem opens27 {H : Type} {enc : TypeId × Value → H} : Opens enc Try.prog 27 k27 W27 := Opens.struct (fun p => ⟨p.1, p.2⟩) Try.underlying27 zq0 (fun _ => rfl) (OpensFs.cons rfl zq0 (Opens.int Try.underlying2) (OpensFs.one rfl zq0 (Opens.int Try.underlying2)))
def W33 (x : S33) : Prop := W27 x.f0 ∧ W27 x.f1
theorem opens33 {H : Type} {enc : TypeId × Value → H} : Opens enc Try.prog 33 k33 W33 := Opens.struct (fun p => ⟨p.1, p.2⟩) Try.underlying33 zq0 (fun _ => rfl) (OpensFs.cons rfl zq0 opens27 (OpensFs.one rfl zq0 opens27))
def W25 (x : S25) : Prop := (Lit.int .i64 x.f0).wf = true ∧ (Lit.int .i64 x.f1).wf = true ∧ (Lit.int .i64 x.f2).wf = true ∧ (Lit.int .i64 x.f3).wf = true ∧ (Lit.int .i64 x.f4).wf = true ∧ (Lit.int .i64 x.f5).wf = true ∧ (Lit.int .i64 x.f6).wf = true ∧ ((∀ y ∈ x.f7, True) ∧ x.f7.length * Try.prog.bytesOf 4 ≤ reachBytes) ∧ ((∀ y ∈ x.f8, W33 y) ∧ x.f8.length * Try.prog.bytesOf 33 ≤ reachBytes)
theorem opens25 {H : Type} {enc : TypeId × Value → H} : Opens enc Try.prog 25 k25 W25 := Opens.struct (fun p => ⟨p.1, p.2.1, p.2.2.1, p.2.2.2.1, p.2.2.2.2.1, p.2.2.2.2.2.1, p.2.2.2.2.2.2.1, p.2.2.2.2.2.2.2.1, p.2.2.2.2.2.2.2.2⟩) Try.underlying25 zq0 (fun _ => rfl) (OpensFs.cons rfl zq0 (Opens.int Try.underlying3) (OpensFs.cons rfl zq0 (Opens.int Try.underlying3) (OpensFs.cons rfl zq0 (Opens.int Try.underlying2) (OpensFs.cons rfl zq0 (Opens.int Try.underlying2) (OpensFs.cons rfl zq0 (Opens.int Try.underlying3) (OpensFs.cons rfl zq0 (Opens.int Try.underlying3) (OpensFs.cons rfl zq0 (Opens.int Try.underlying2) (OpensFs.cons rfl zq0 (Opens.slice 4 Try.underlying22 zq0 (Opens.bool Try.underlying4)) (OpensFs.one rfl zq0 (Opens.slice 33 Try.underlying23 zq0 opens33))))))))))
def W29 (x : S29) : Prop := W27 x.f0 ∧ W27 x.f1
theorem opens29 {H : Type} {enc : TypeId × Value → H} : Opens enc Try.prog 29 k29 W29 := Opens.struct (fun p => ⟨p.1, p.2⟩) Try.underlying29 zq0 (fun _ => rfl) (OpensFs.cons rfl zq0 opens27 (OpensFs.one rfl zq0 opens27))
end Go.Proofs.Ythglkoddmpicdaa.Good
end
section
/- What the document's answer says of seas, vehicles and boxes: the same as the program. -/
namespace Go.Proofs.Ythglkoddmpicdaa.Gl
open Go.RowKit Go.Proofs.YthglkoddmpicdaaW.PrintWords Go.Proofs.YthglkoddmpicdaaW.PrintLast Go.Proofs.YthglkoddmpicdaaW.PrintMore Go.Proofs.Ythglkoddmpicdaa.Pr
set_option linter.unusedVariables false
theorem w64_id {x : Int} (h : -9223372036854775808 ≤ x ∧ x < 9223372036854775808) : wrap64 x = x := by unfold wrap64; omega
theorem ref_valid (lo hi : Int) : isobathref01_Valid.f lo hi = some (okS lo hi) := by
 unfold isobathref01_Valid.f isobathref01_Within.f
 rw [show okS lo hi = (decide (lo ≤ hi) && (decide (-1073741824 ≤ lo) && decide (lo ≤ 1073741824)) && (decide (-1073741824 ≤ hi) && decide (hi ≤ 1073741824))) from by
  rw [Bool.eq_iff_iff, okS_iff]; simp only [Bool.and_eq_true, decide_eq_true_eq]; omega]
 by_cases h1 : lo ≤ hi <;> by_cases h2 : -1073741824 ≤ lo <;> by_cases h3 : lo ≤ 1073741824 <;> by_cases h4 : -1073741824 ≤ hi <;> by_cases h5 : hi ≤ 1073741824 <;> simp [h1, h2, h3, h4, h5]
theorem ref_bounded (lo hi a b : Int) : isobathref03_bounded.f lo hi a b = some (bndB lo hi a b) := by
 unfold isobathref03_bounded.f bndB
 rw [ref_valid, Option.bind_some]
 cases okS lo hi with
 | false => rfl
 | true =>
  by_cases h : a ≤ lo <;> simp [h]
theorem ref_within (x lo hi : Int) : isobathref01_Within.f x lo hi = some (btwB x lo hi) := by
 unfold isobathref01_Within.f btwB
 by_cases h : lo ≤ x <;> simp [h]
theorem ref_box (x : S29) : isobathref01_ValidBox.f x.f0.f0 x.f0.f1 x.f1.f0 x.f1.f1 = some (boxB x) := by
 unfold isobathref01_ValidBox.f boxB
 simp only [ref_valid, ref_within, Option.bind_some]
 cases okS x.f0.f0 x.f0.f1 <;> cases okS x.f1.f0 x.f1.f1 <;> cases btwB x.f0.f0 (-268435456) 268435456 <;> cases btwB x.f0.f1 (-268435456) 268435456 <;> cases btwB x.f1.f0 (-268435456) 268435456 <;> cases btwB x.f1.f1 (-268435456) 268435456 <;> rfl
theorem sea_loop (s : Sea) (hm : 0 ≤ s.most ∧ s.most ≤ 5000) (hl : s.currents.length ≤ 100000) : ∀ (m i K : Nat), i + m = s.currents.length → m + 1 ≤ K →
  isobathref03_CheckSea.l0 K (i : Int) s.nx s.ny s.cell s.slot s.slots s.layers s.most s.shores s.currents = some (if (s.currents.drop i).any (badC s.most) then 2 else 0)
 | 0, i, K + 1, h, hk => by
  rw [isobathref03_CheckSea.l0, if_neg (by omega), List.drop_eq_nil_of_le (by omega)]; rfl
 | m + 1, i, K + 1, h, hk => by
  have hi : i < s.currents.length := by omega
  rw [isobathref03_CheckSea.l0, if_pos (by omega), if_pos (by omega), w64_id (x := -s.most) (by omega), w64_id (x := (i : Int) + 1) (by omega)]
  have e : rd_T33 s.currents (i : Int) = s.currents[i] := by
   unfold rd_T33
   simp [hi]
  rw [e, ref_bounded, Option.bind_some, ref_bounded, Option.bind_some, List.drop_eq_getElem_cons hi, List.any_cons]
  have ih := sea_loop s hm hl m (i + 1) K (by omega) (by omega)
  rw [show ((i + 1 : Nat) : Int) = (i : Int) + 1 from by omega] at ih
  rw [ih, show badC s.most s.currents[i] = (!bndB s.currents[i].f0.f0 s.currents[i].f0.f1 (-s.most) s.most || !bndB s.currents[i].f1.f0 s.currents[i].f1.f1 (-s.most) s.most) from rfl]
  cases bndB s.currents[i].f0.f0 s.currents[i].f0.f1 (-s.most) s.most
  ·rfl
  cases bndB s.currents[i].f1.f0 s.currents[i].f1.f1 (-s.most) s.most
  ·rfl
  rfl
theorem ref_sea (s : Sea) (K : Nat) (hl : s.currents.length ≤ 100000) (hk : s.currents.length + 3 ≤ K) : isobathref03_CheckSea.f K s.nx s.ny s.cell s.slot s.slots s.layers s.most s.shores s.currents = some (seaE s) := by
 obtain ⟨K, rfl⟩ : ∃ k, K = k + 2 := ⟨K - 2, by omega⟩
 have hj : isobathref03_CheckSea.j0 (K + 2) true s.nx s.ny s.cell s.slot s.slots s.layers s.most s.shores s.currents = some 2 := by rw [isobathref03_CheckSea.j0, if_pos rfl]
 unfold isobathref03_CheckSea.f seaE seaB
 rw [hj]
 unfold btwB
 by_cases h1 : s.nx < 1
 ·rw [if_pos h1, show decide (1 ≤ s.nx) = false from decide_eq_false (by omega)]; rfl
 rw [if_neg h1, show decide (1 ≤ s.nx) = true from decide_eq_true (by omega)]
 by_cases h2 : s.nx > 12
 ·rw [if_pos h2, show decide (s.nx ≤ 12) = false from decide_eq_false (by omega)]; rfl
 rw [if_neg h2, show decide (s.nx ≤ 12) = true from decide_eq_true (by omega)]
 by_cases h3 : s.ny < 1
 ·rw [if_pos h3, show decide (1 ≤ s.ny) = false from decide_eq_false (by omega)]; rfl
 rw [if_neg h3, show decide (1 ≤ s.ny) = true from decide_eq_true (by omega)]
 by_cases h4 : s.ny > 12
 ·rw [if_pos h4, show decide (s.ny ≤ 12) = false from decide_eq_false (by omega)]; rfl
 rw [if_neg h4, show decide (s.ny ≤ 12) = true from decide_eq_true (by omega)]
 by_cases h5 : s.cell < 100
 ·rw [if_pos h5, show decide (100 ≤ s.cell) = false from decide_eq_false (by omega)]; rfl
 rw [if_neg h5, show decide (100 ≤ s.cell) = true from decide_eq_true (by omega)]
 by_cases h6 : s.cell > 65536
 ·rw [if_pos h6, show decide (s.cell ≤ 65536) = false from decide_eq_false (by omega)]; rfl
 rw [if_neg h6, show decide (s.cell ≤ 65536) = true from decide_eq_true (by omega)]
 by_cases h7 : s.slot < 1
 ·rw [if_pos h7, show decide (1 ≤ s.slot) = false from decide_eq_false (by omega)]; rfl
 rw [if_neg h7, show decide (1 ≤ s.slot) = true from decide_eq_true (by omega)]
 by_cases h8 : s.slot > 1048576
 ·rw [if_pos h8, show decide (s.slot ≤ 1048576) = false from decide_eq_false (by omega)]; rfl
 rw [if_neg h8, show decide (s.slot ≤ 1048576) = true from decide_eq_true (by omega)]
 by_cases h9 : s.slots < 1
 ·rw [if_pos h9, show decide (1 ≤ s.slots) = false from decide_eq_false (by omega)]; rfl
 rw [if_neg h9, show decide (1 ≤ s.slots) = true from decide_eq_true (by omega)]
 by_cases h10 : s.slots > 16
 ·rw [if_pos h10, show decide (s.slots ≤ 16) = false from decide_eq_false (by omega)]; rfl
 rw [if_neg h10, show decide (s.slots ≤ 16) = true from decide_eq_true (by omega)]
 by_cases h11 : s.layers < 1
 ·rw [if_pos h11, show decide (1 ≤ s.layers) = false from decide_eq_false (by omega)]; rfl
 rw [if_neg h11, show decide (1 ≤ s.layers) = true from decide_eq_true (by omega)]
 by_cases h12 : s.layers > 3
 ·rw [if_pos h12, show decide (s.layers ≤ 3) = false from decide_eq_false (by omega)]; rfl
 rw [if_neg h12, show decide (s.layers ≤ 3) = true from decide_eq_true (by omega)]
 by_cases h13 : s.most < 0
 ·rw [if_pos h13, show decide (0 ≤ s.most) = false from decide_eq_false (by omega)]; rfl
 rw [if_neg h13, show decide (0 ≤ s.most) = true from decide_eq_true (by omega)]
 by_cases h14 : s.most > 5000
 ·rw [show decide (s.most > 5000) = true from decide_eq_true h14, hj, show decide (s.most ≤ 5000) = false from decide_eq_false (by omega)]; rfl
 rw [show decide (s.most > 5000) = false from decide_eq_false h14, show decide (s.most ≤ 5000) = true from decide_eq_true (by omega)]
 obtain ⟨n0, n1⟩ := mul_in (a := s.nx) (b := s.ny) (m := 12) (n := 12) (by omega) (by omega) (by omega) (by omega)
 obtain ⟨m0, m1⟩ := mul_in (a := s.slots) (b := s.layers) (m := 16) (n := 3) (by omega) (by omega) (by omega) (by omega)
 obtain ⟨q0, q1⟩ := mul_in (a := s.slots * s.layers) (b := s.nx * s.ny) (m := 48) (n := 144) (by omega) (by omega) (by omega) (by omega)
 obtain ⟨p0, p1⟩ := mul_in (a := s.slots * s.layers) (b := s.nx) (m := 48) (n := 12) (by omega) (by omega) (by omega) (by omega)
 have ea : s.layers * s.slots = s.slots * s.layers := Int.mul_comm _ _
 have eb : s.slots * s.layers * s.nx * s.ny = s.slots * s.layers * (s.nx * s.ny) := by rw [Int.mul_assoc]
 rw [isobathref03_CheckSea.j0, if_neg (by decide), w64_id (x := s.nx * s.ny) (by omega)]
 by_cases h15 : (s.shores.length : Int) = s.nx * s.ny
 ·rw [if_pos h15, decide_eq_true h15, isobathref03_CheckSea.j1, w64_id (x := s.slots * s.layers) (by omega), w64_id (x := s.slots * s.layers * s.nx) (by omega), eb, w64_id (x := s.slots * s.layers * (s.nx * s.ny)) (by omega)]
  by_cases h16 : (s.currents.length : Int) = s.slots * s.layers * (s.nx * s.ny)
  ·rw [if_neg (by rw [h16]; simp), decide_eq_true h16]
   have := sea_loop s (by omega) hl s.currents.length 0 K (by omega) (by omega)
   rw [show ((0 : Nat) : Int) = 0 from rfl, List.drop_zero] at this
   rw [this]
   cases s.currents.any (badC s.most) <;> rfl
  ·rw [if_pos (by simpa using h16), decide_eq_false h16]; rfl
 ·rw [if_neg h15, decide_eq_false h15, isobathref03_CheckSea.j1, if_pos rfl]; rfl
end Go.Proofs.Ythglkoddmpicdaa.Gl
end
section
/- Hulls of boxes, the cells that a box touches: what grows with what. Plain law, no program. -/
namespace Go.Proofs.Ythglkoddmpicdaa.Gl
open Go.RowKit Go.Proofs.YthglkoddmpicdaaW.PrintWords Go.Proofs.YthglkoddmpicdaaW.PrintLast Go.Proofs.YthglkoddmpicdaaW.PrintMore Go.Proofs.Ythglkoddmpicdaa.Pr
set_option linter.unusedVariables false
/-- A box lies in another. -/
def SubB (a b : S29) : Prop := b.f0.f0 ≤ a.f0.f0 ∧ a.f0.f1 ≤ b.f0.f1 ∧ b.f1.f0 ≤ a.f1.f0 ∧ a.f1.f1 ≤ b.f1.f1
theorem SubB.rfl' (a : S29) : SubB a a := ⟨Int.le_refl _, Int.le_refl _, Int.le_refl _, Int.le_refl _⟩
theorem SubB.trans {a b c : S29} (h : SubB a b) (k : SubB b c) : SubB a c := by unfold SubB at *; omega
theorem SubB.antisymm {a b : S29} (h : SubB a b) (k : SubB b a) : a = b := by
 obtain ⟨⟨a0, a1⟩, ⟨a2, a3⟩⟩ := a
 obtain ⟨⟨b0, b1⟩, ⟨b2, b3⟩⟩ := b
 unfold SubB at *
 dsimp only at h k
 have e0 : a0 = b0 := by omega
 have e1 : a1 = b1 := by omega
 have e2 : a2 = b2 := by omega
 have e3 : a3 = b3 := by omega
 rw [e0, e1, e2, e3]
theorem hullB_up {a b : S29} : SubB a (hullB a b) ∧ SubB b (hullB a b) := by
 unfold SubB hullB
 dsimp only
 omega
theorem hullB_low {a b c : S29} (h : SubB a c) (k : SubB b c) : SubB (hullB a b) c := by
 unfold SubB hullB at *
 dsimp only
 omega
theorem hull_fold : ∀ (l : List S29) (z : S29), ∃ y, l.foldl hullO (some z) = some y ∧ (SubB z y ∧ ∀ a ∈ l, SubB a y) ∧ ∀ b, SubB z b → (∀ a ∈ l, SubB a b) → SubB y b
 | [], z => ⟨z, rfl, ⟨SubB.rfl' z, fun a h => by cases h⟩, fun b h _ => h⟩
 | x :: l, z => by
  obtain ⟨y, h, ⟨h1, h2⟩, h3⟩ := hull_fold l (hullB z x)
  refine ⟨y, h, ⟨hullB_up.1.trans h1, fun a ha => ?_⟩, fun b hb hl => h3 b (hullB_low hb (hl x (List.mem_cons_self ..))) fun a ha => hl a (List.mem_cons_of_mem _ ha)⟩
  rcases List.mem_cons.1 ha with rfl | ha
  ·exact hullB_up.2.trans h1
  ·exact h2 a ha
theorem hull_of {l : List S29} (h : l ≠ []) : ∃ y, hullL l = some y ∧ (∀ a ∈ l, SubB a y) ∧ ∀ b, (∀ a ∈ l, SubB a b) → SubB y b := by
 cases l with
 | nil => exact absurd rfl h
 | cons x l =>
  obtain ⟨y, h, ⟨h1, h2⟩, h3⟩ := hull_fold l x
  refine ⟨y, h, fun a ha => ?_, fun b hl => h3 b (hl x (List.mem_cons_self ..)) fun a ha => hl a (List.mem_cons_of_mem _ ha)⟩
  rcases List.mem_cons.1 ha with rfl | ha
  ·exact h1
  ·exact h2 a ha
theorem outV_mono {l l' : List S29} (h : l ≠ []) (hs : ∀ a ∈ l, ∃ b ∈ l', SubB a b) : SubB (outV l) (outV l') := by
 obtain ⟨y, e, h1, h2⟩ := hull_of h
 have h' : l' ≠ [] := by
  intro e'
  cases l with
  | nil => exact h rfl
  | cons x l =>
   obtain ⟨b, hb, _⟩ := hs x (List.mem_cons_self ..)
   rw [e'] at hb; cases hb
 obtain ⟨y', e', h1', h2'⟩ := hull_of h'
 unfold outV
 rw [e, e']
 exact h2 y' fun a ha => by
  obtain ⟨b, hb, hs⟩ := hs a ha
  exact hs.trans (h1' b hb)
theorem mem_allT {nx i0 k0 c : Int} {n m : Nat} : c ∈ allT nx i0 n k0 m ↔ ∃ r : Nat, r < m ∧ ∃ j : Nat, j < n ∧ c = (k0 + (r : Int)) * nx + (i0 + (j : Int)) := by
 unfold allT rowT
 simp only [List.mem_flatMap, List.mem_range, List.mem_map]
 constructor
 ·rintro ⟨r, hr, j, hj, rfl⟩
  exact ⟨r, hr, j, hj, rfl⟩
 ·rintro ⟨r, hr, j, hj, rfl⟩
  exact ⟨r, hr, j, hj, rfl⟩
/-- The cells of a range of columns and a range of rows. -/
theorem mem_cells {nx a b c d k : Int} : k ∈ allT nx a (b + 1 - a).toNat c (d + 1 - c).toNat ↔ ∃ r i : Int, (c ≤ r ∧ r ≤ d) ∧ (a ≤ i ∧ i ≤ b) ∧ k = r * nx + i := by
 rw [mem_allT]
 constructor
 ·rintro ⟨r, hr, j, hj, rfl⟩
  exact ⟨c + r, a + j, by omega, by omega, rfl⟩
 ·rintro ⟨r, i, hr, hi, rfl⟩
  exact ⟨(r - c).toNat, by omega, (i - a).toNat, by omega, by rw [show c + ((r - c).toNat : Int) = r from by omega, show a + ((i - a).toNat : Int) = i from by omega]⟩
theorem mem_touch {s : Sea} {x : S29} {k : Int} : k ∈ touchL s x ↔ ∃ r i : Int, ((numI s.cell x.f1 s.ny).1 ≤ r ∧ r ≤ (numI s.cell x.f1 s.ny).2) ∧ ((numI s.cell x.f0 s.nx).1 ≤ i ∧ i ≤ (numI s.cell x.f0 s.nx).2) ∧ k = r * s.nx + i := mem_cells
theorem first_le (c x : Int) : firstI c x ≤ x / c ∧ x / c - 1 ≤ firstI c x := by unfold firstI; split <;> omega
theorem num_some {c most : Int} {a : S27} (hc : 0 < c) (h : a.f0 ≤ a.f1) : (numI c a most).1 ≤ (numI c a most).2 := by
 have := (first_le c a.f0).1
 have := Int.ediv_le_ediv hc h
 unfold numI
 dsimp only
 omega
theorem touch_some {s : Sea} {x : S29} (hc : 0 < s.cell) (h0 : x.f0.f0 ≤ x.f0.f1) (h1 : x.f1.f0 ≤ x.f1.f1) : ∃ k, k ∈ touchL s x := by
 have a := num_some (c := s.cell) (most := s.nx) (a := x.f0) hc h0
 have b := num_some (c := s.cell) (most := s.ny) (a := x.f1) hc h1
 exact ⟨_, mem_touch.2 ⟨_, _, ⟨Int.le_refl _, b⟩, ⟨Int.le_refl _, a⟩, rfl⟩⟩
theorem mem_boxes {s : Sea} {x : S29} {layer j0 : Int} {q : Nat} {y : S29} : y ∈ boxesL s x layer j0 q ↔ ∃ r : Nat, r < q ∧ ∃ c ∈ touchL s x, y = curB s layer (j0 + (r : Int)) c := by
 unfold boxesL slotL
 simp only [List.mem_flatMap, List.mem_range, List.mem_map]
 constructor
 ·rintro ⟨r, hr, c, hc, rfl⟩
  exact ⟨r, hr, c, hc, rfl⟩
 ·rintro ⟨r, hr, c, hc, rfl⟩
  exact ⟨r, hr, c, hc, rfl⟩
theorem span_some {t u d : Int} (hd : 0 < d) (h : t < u) : 0 < ((u - 1) / d + 1 - t / d).toNat := by
 have := Int.ediv_le_ediv (a := t) (b := u - 1) hd (by omega)
 omega
end Go.Proofs.Ythglkoddmpicdaa.Gl
end
section
/- What the document's answer says of the currents that a box may meet: the same as the program. -/
namespace Go.Proofs.Ythglkoddmpicdaa.Gl
open Go.RowKit Go.Proofs.YthglkoddmpicdaaW.PrintWords Go.Proofs.YthglkoddmpicdaaW.PrintLast Go.Proofs.YthglkoddmpicdaaW.PrintMore Go.Proofs.Ythglkoddmpicdaa.Pr
set_option linter.unusedVariables false
/-- Does a box touch a cell, by the reference's words? -/
def touchR (s : Sea) (x : S29) (c : Int) : Bool := (decide (x.f0.f0 ≤ (c % s.nx + 1) * s.cell) && decide (c % s.nx * s.cell ≤ x.f0.f1)) && (decide (x.f1.f0 ≤ (c / s.nx + 1) * s.cell) && decide (c / s.nx * s.cell ≤ x.f1.f1))
theorem one_dim {c lo hi most i : Int} (hc : 0 < c) (h0 : 0 ≤ lo) (h1 : lo ≤ hi) (h2 : hi ≤ most * c) (hi0 : 0 ≤ i) (hi1 : i ≤ most - 1) :
  (min (firstI c lo) (most - 1) ≤ i ∧ i ≤ min (hi / c) (most - 1)) ↔ (lo ≤ (i + 1) * c ∧ i * c ≤ hi) := by
 have a : i ≤ hi / c ↔ i * c ≤ hi := Int.le_ediv_iff_mul_le hc
 have q0 : 0 ≤ lo / c := Int.ediv_nonneg h0 (by omega)
 have dm := Int.emod_add_mul_ediv lo c
 have m0 := Int.emod_nonneg lo (show c ≠ 0 by omega)
 have b : firstI c lo ≤ i ↔ lo ≤ (i + 1) * c := by
  have e : (i + 1) * c = i * c + c := by rw [Int.add_mul, Int.one_mul]
  unfold firstI
  by_cases hz : lo % c = 0
  ·have hq : (lo / c ≤ i + 1) ↔ lo ≤ (i + 1) * c := by
    constructor
    ·intro h
     have := Int.mul_le_mul_of_nonneg_right h (show 0 ≤ c by omega)
     rw [Int.mul_comm (lo / c) c] at this
     omega
    ·intro h
     have := Int.ediv_le_ediv hc h
     rw [Int.mul_ediv_cancel _ (show c ≠ 0 by omega)] at this
     exact this
   by_cases hp : 0 < lo / c
   ·rw [if_pos ⟨hp, hz⟩, ← hq]; omega
   ·rw [if_neg (fun q => hp q.1), ← hq]; omega
  ·rw [if_neg (fun q => hz q.2)]
   constructor
   ·intro h
    have h' : lo / c < i + 1 := by omega
    have := (Int.ediv_lt_iff_lt_mul hc).1 h'
    omega
   ·intro h
    have h' : lo < (i + 1) * c := by
     rcases Int.lt_or_eq_of_le h with h | h
     ·exact h
     ·exfalso
      apply hz
      rw [h, Int.mul_emod_left]
    have := (Int.ediv_lt_iff_lt_mul hc).2 h'
    omega
 have last : i = most - 1 → lo ≤ (i + 1) * c := by
  intro e
  rw [e, Int.sub_add_cancel]
  omega
 rw [← a, ← b]
 constructor
 ·rintro ⟨h, k⟩
  refine ⟨?_, by omega⟩
  by_cases e : i = most - 1
  ·exact b.2 (last e)
  ·omega
 ·rintro ⟨h, k⟩
  omega
theorem touch_iff {s : Sea} {x : S29} (hN : SeaN s) (hx0 : x.f0.f0 ≤ x.f0.f1) (hx1 : x.f1.f0 ≤ x.f1.f1) (hc : containsI s x = true) {c : Int} : c ∈ touchL s x ↔ (0 ≤ c ∧ c < s.nx * s.ny) ∧ touchR s x c = true := by
 unfold containsI at hc
 simp only [Bool.and_eq_true, decide_eq_true_eq] at hc
 obtain ⟨⟨⟨c0, c1⟩, c2⟩, c3⟩ := hc
 have pc : 0 < s.cell := by have := hN.cell; omega
 have pn : 0 < s.nx := by have := hN.nx; omega
 have pm : 0 < s.ny := by have := hN.ny; omega
 rw [mem_touch]
 unfold touchR
 simp only [Bool.and_eq_true, decide_eq_true_eq]
 have f0 : ∀ lo k : Int, 0 ≤ lo → 0 < k → 0 ≤ (min (firstI s.cell lo) (k - 1)) := by
  intro lo k h hk
  have q0 : 0 ≤ lo / s.cell := Int.ediv_nonneg h (by omega)
  have : 0 ≤ firstI s.cell lo := by unfold firstI; split <;> omega
  omega
 constructor
 ·rintro ⟨r, i, hr, hi, e⟩
  have hi0 : 0 ≤ i := Int.le_trans (f0 _ _ c0 pn) hi.1
  have hr0 : 0 ≤ r := Int.le_trans (f0 _ _ c1 pm) hr.1
  have hi1 : i ≤ s.nx - 1 := by have := hi.2; unfold numI at this; dsimp only at this; omega
  have hr1 : r ≤ s.ny - 1 := by have := hr.2; unfold numI at this; dsimp only at this; omega
  have em : c % s.nx = i := by rw [e, Int.add_comm, Int.add_mul_emod_self_right, Int.emod_eq_of_lt hi0 (by omega)]
  have ed : c / s.nx = r := by rw [e, Int.add_comm, Int.add_mul_ediv_right _ _ (by omega), Int.ediv_eq_zero_of_lt hi0 (by omega), Int.zero_add]
  have p1 : 0 ≤ r * s.nx := Int.mul_nonneg hr0 (by omega)
  have p2 : r * s.nx ≤ (s.ny - 1) * s.nx := Int.mul_le_mul_of_nonneg_right hr1 (by omega)
  have p3 : (s.ny - 1) * s.nx = s.nx * s.ny - s.nx := by rw [Int.sub_mul, Int.mul_comm, Int.one_mul]
  rw [em, ed]
  exact ⟨⟨by omega, by omega⟩, (one_dim pc c0 hx0 c2 hi0 hi1).1 hi, (one_dim pc c1 hx1 c3 hr0 hr1).1 hr⟩
 ·rintro ⟨⟨k0, k1⟩, h0, h1⟩
  have hi0 : 0 ≤ c % s.nx := Int.emod_nonneg _ (by omega)
  have hi1 : c % s.nx ≤ s.nx - 1 := by have := Int.emod_lt_of_pos c pn; omega
  have hr0 : 0 ≤ c / s.nx := Int.ediv_nonneg k0 (by omega)
  have hr1 : c / s.nx ≤ s.ny - 1 := by have := (Int.ediv_lt_iff_lt_mul (a := c) (b := s.ny) pn).2 (by rw [Int.mul_comm]; exact k1); omega
  refine ⟨c / s.nx, c % s.nx, (one_dim pc c1 hx1 c3 hr0 hr1).2 h1, (one_dim pc c0 hx0 c2 hi0 hi1).2 h0, ?_⟩
  have := Int.emod_add_mul_ediv c s.nx
  rw [Int.mul_comm] at this
  omega
/-- The currents that the reference meets in the cells from c on. -/
def refC (s : Sea) (x : S29) (layer j : Int) : Nat → Int → List S29
 | 0, _ => []
 | m + 1, c => (if touchR s x c then [curB s layer j c] else []) ++ refC s x layer j m (c + 1)
def refL (s : Sea) (x : S29) (layer t u : Int) : Nat → Int → List S29
 | 0, _ => []
 | q + 1, j => (if u ≤ j * s.slot ∨ (j + 1) * s.slot ≤ t then [] else refC s x layer j (s.nx * s.ny).toNat 0) ++ refL s x layer t u q (j + 1)
theorem mem_refC {s : Sea} {x : S29} {layer j : Int} {y : S29} : ∀ (m : Nat) (c : Int), y ∈ refC s x layer j m c ↔ ∃ k, (c ≤ k ∧ k < c + (m : Int)) ∧ touchR s x k = true ∧ y = curB s layer j k
 | 0, c => by
  unfold refC
  constructor
  ·intro h; cases h
  ·rintro ⟨k, h, _⟩; omega
 | m + 1, c => by
  unfold refC
  rw [List.mem_append, mem_refC m (c + 1)]
  constructor
  ·rintro (h | ⟨k, h, h1, h2⟩)
   ·by_cases ht : touchR s x c = true
    ·rw [if_pos ht, List.mem_singleton] at h
     exact ⟨c, by omega, ht, h⟩
    ·rw [if_neg ht] at h; cases h
   ·exact ⟨k, by omega, h1, h2⟩
  ·rintro ⟨k, h, h1, h2⟩
   by_cases e : k = c
   ·subst e
    left
    rw [if_pos h1, List.mem_singleton]; exact h2
   ·exact Or.inr ⟨k, by omega, h1, h2⟩
theorem mem_refL {s : Sea} {x : S29} {layer t u : Int} {y : S29} : ∀ (q : Nat) (j : Int), y ∈ refL s x layer t u q j ↔ ∃ i, (j ≤ i ∧ i < j + (q : Int)) ∧ (i * s.slot < u ∧ t < (i + 1) * s.slot) ∧ y ∈ refC s x layer i (s.nx * s.ny).toNat 0
 | 0, j => by
  unfold refL
  constructor
  ·intro h; cases h
  ·rintro ⟨k, h, _⟩; omega
 | q + 1, j => by
  unfold refL
  rw [List.mem_append, mem_refL q (j + 1)]
  constructor
  ·rintro (h | ⟨k, h, h1, h2⟩)
   ·by_cases ht : u ≤ j * s.slot ∨ (j + 1) * s.slot ≤ t
    ·rw [if_pos ht] at h; cases h
    ·rw [if_neg ht] at h
     exact ⟨j, by omega, by omega, h⟩
   ·exact ⟨k, by omega, h1, h2⟩
  ·rintro ⟨k, h, h1, h2⟩
   by_cases e : k = j
   ·subst e
    left
    rw [if_neg (by omega)]; exact h2
   ·exact Or.inr ⟨k, by omega, h1, h2⟩
/-- The reference's currents are the program's. -/
theorem ref_boxes {s : Sea} {x : S29} {layer t u : Int} (hN : SeaN s) (hx0 : x.f0.f0 ≤ x.f0.f1) (hx1 : x.f1.f0 ≤ x.f1.f1) (hc : containsI s x = true) (ht0 : 0 ≤ t) (htu : t < u) (hu : u ≤ s.slots * s.slot) :
  outV (refL s x layer t u s.slots.toNat 0) = atI s x layer t u := by
 have pd : 0 < s.slot := by have := hN.slot; omega
 have ps : 0 < s.slots := by have := hN.slots; omega
 have pnn : 0 ≤ s.nx * s.ny := Int.mul_nonneg (by have := hN.nx; omega) (by have := hN.ny; omega)
 have pc : 0 < s.cell := by have := hN.cell; omega
 have hm : ∀ y, y ∈ refL s x layer t u s.slots.toNat 0 ↔ y ∈ boxesL s x layer (t / s.slot) ((u - 1) / s.slot + 1 - t / s.slot).toNat := by
  intro y
  rw [mem_refL, mem_boxes]
  constructor
  ·rintro ⟨i, hi, ⟨h1, h2⟩, hy⟩
   obtain ⟨k, hk, hk1, e⟩ := (mem_refC _ _).1 hy
   have a1 : i ≤ (u - 1) / s.slot := (Int.le_ediv_iff_mul_le pd).2 (by omega)
   have a2 : t / s.slot < i + 1 := (Int.ediv_lt_iff_lt_mul pd).2 h2
   refine ⟨(i - t / s.slot).toNat, by omega, k, (touch_iff hN hx0 hx1 hc).2 ⟨by omega, hk1⟩, ?_⟩
   rw [show t / s.slot + ((i - t / s.slot).toNat : Int) = i from by omega]; exact e
  ·rintro ⟨r, hr, c, hc', e⟩
   obtain ⟨h0, h1⟩ := (touch_iff hN hx0 hx1 hc).1 hc'
   have t0 : 0 ≤ t / s.slot := Int.ediv_nonneg ht0 (by omega)
   have a1 : (t / s.slot + (r : Int)) * s.slot ≤ u - 1 := (Int.le_ediv_iff_mul_le pd).1 (by omega)
   have a2 : t < (t / s.slot + (r : Int) + 1) * s.slot := (Int.ediv_lt_iff_lt_mul pd).1 (by omega)
   have a3 : t / s.slot + (r : Int) < s.slots := by
    by_cases h : t / s.slot + (r : Int) < s.slots
    ·exact h
    ·exfalso
     have := Int.mul_le_mul_of_nonneg_right (show s.slots ≤ t / s.slot + (r : Int) by omega) (show 0 ≤ s.slot by omega)
     omega
   exact ⟨t / s.slot + (r : Int), by omega, ⟨by omega, a2⟩, (mem_refC _ _).2 ⟨c, by omega, h1, e⟩⟩
 obtain ⟨k, hk⟩ := touch_some (s := s) pc hx0 hx1
 have hne : boxesL s x layer (t / s.slot) ((u - 1) / s.slot + 1 - t / s.slot).toNat ≠ [] := List.ne_nil_of_mem (mem_boxes.2 ⟨0, span_some pd htu, k, hk, rfl⟩)
 have hne' : refL s x layer t u s.slots.toNat 0 ≠ [] := List.ne_nil_of_mem ((hm _).2 (mem_boxes.2 ⟨0, span_some pd htu, k, hk, rfl⟩))
 exact SubB.antisymm (outV_mono hne' fun a ha => ⟨a, (hm a).1 ha, SubB.rfl' a⟩) (outV_mono hne fun a ha => ⟨a, (hm a).2 ha, SubB.rfl' a⟩)
theorem ref_cell (s : Sea) (hN : SeaN s) (c : Int) (h0 : 0 ≤ c) (h1 : c < s.nx * s.ny) : isobathref03_Cell.f s.nx s.ny s.cell s.slot s.slots s.layers s.most s.shores s.currents c = some (c % s.nx * s.cell, (c % s.nx + 1) * s.cell, c / s.nx * s.cell, (c / s.nx + 1) * s.cell) := by
 have pn : 0 < s.nx := by have := hN.nx; omega
 have hi0 : 0 ≤ c % s.nx := Int.emod_nonneg _ (by omega)
 have hi1 : c % s.nx < s.nx := Int.emod_lt_of_pos c pn
 have hr0 : 0 ≤ c / s.nx := Int.ediv_nonneg h0 (by omega)
 have hr1 : c / s.nx < s.ny := (Int.ediv_lt_iff_lt_mul (a := c) (b := s.ny) pn).2 (by rw [Int.mul_comm]; exact h1)
 have n1 := hN.nx; have n2 := hN.ny; have n3 := hN.cell
 obtain ⟨a0, a1⟩ := mul_in (a := c % s.nx) (b := s.cell) (m := 12) (n := 65536) (by omega) (by omega) (by omega) (by omega)
 obtain ⟨b0, b1⟩ := mul_in (a := c % s.nx + 1) (b := s.cell) (m := 12) (n := 65536) (by omega) (by omega) (by omega) (by omega)
 obtain ⟨d0, d1⟩ := mul_in (a := c / s.nx) (b := s.cell) (m := 12) (n := 65536) (by omega) (by omega) (by omega) (by omega)
 obtain ⟨e0, e1⟩ := mul_in (a := c / s.nx + 1) (b := s.cell) (m := 12) (n := 65536) (by omega) (by omega) (by omega) (by omega)
 unfold isobathref03_Cell.f
 rw [if_neg (by omega), Int.tmod_eq_emod_of_nonneg h0, Int.tdiv_eq_ediv_of_nonneg h0, w64_id (x := c / s.nx) (by omega), w64_id (x := c % s.nx + 1) (by omega), w64_id (x := c / s.nx + 1) (by omega), w64_id (x := c % s.nx * s.cell) (by omega), w64_id (x := (c % s.nx + 1) * s.cell) (by omega), w64_id (x := c / s.nx * s.cell) (by omega), w64_id (x := (c / s.nx + 1) * s.cell) (by omega)]
theorem ref_touches (x : S29) (a b c d : Int) : isobathref03_touches.f x.f0.f0 x.f0.f1 x.f1.f0 x.f1.f1 a b c d = some ((decide (x.f0.f0 ≤ b) && decide (a ≤ x.f0.f1)) && (decide (x.f1.f0 ≤ d) && decide (c ≤ x.f1.f1))) := by
 unfold isobathref03_touches.f isobathref03_common.f
 by_cases h1 : x.f0.f0 ≤ b <;> by_cases h2 : a ≤ x.f0.f1 <;> by_cases h3 : x.f1.f0 ≤ d <;> simp [h1, h2, h3]
theorem isEmpty_snoc (l : List S29) (y : S29) : (!(l ++ [y]).isEmpty) = true := by cases l <;> rfl
theorem outV_snoc (l : List S29) (y : S29) : outV (l ++ [y]) = if (!l.isEmpty) = true then hullB (outV l) y else y := by
 unfold outV
 cases hl : l with
 | nil => rfl
 | cons a r =>
  obtain ⟨z, e, _⟩ := hull_of (l := a :: r) (by simp)
  rw [hullL_snoc, e]; rfl
theorem ref_cells (s : Sea) (x : S29) (layer t u j : Int) (hN : SeaN s) (hcu : (s.currents.length : Int) = s.slots * s.layers * (s.nx * s.ny)) (hl0 : 0 ≤ layer) (hl1 : layer < s.layers) (hj0 : 0 ≤ j) (hj1 : j < s.slots) : ∀ (m : Nat) (c : Int) (k : Nat) (l : List S29), 0 ≤ c → c + (m : Int) = s.nx * s.ny →
  isobathref03_at.l1 (m + 1 + k) layer t u (!l.isEmpty) j c s.nx s.ny s.cell s.slot s.slots s.layers s.most s.shores s.currents x.f0.f0 x.f0.f1 x.f1.f0 x.f1.f1 (outV l).f0.f0 (outV l).f0.f1 (outV l).f1.f0 (outV l).f1.f1
   = isobathref03_at.l0 k layer t u (!(l ++ refC s x layer j m c).isEmpty) (j + 1) s.nx s.ny s.cell s.slot s.slots s.layers s.most s.shores s.currents x.f0.f0 x.f0.f1 x.f1.f0 x.f1.f1 (outV (l ++ refC s x layer j m c)).f0.f0 (outV (l ++ refC s x layer j m c)).f0.f1 (outV (l ++ refC s x layer j m c)).f1.f0 (outV (l ++ refC s x layer j m c)).f1.f1
 | 0, c, k, l, h0, h => by
  have n1 := hN.nx; have n2 := hN.ny; have n5 := hN.slots
  obtain ⟨p0, p1⟩ := mul_in (a := s.nx) (b := s.ny) (m := 12) (n := 12) (by omega) (by omega) (by omega) (by omega)
  rw [show 0 + 1 + k = k + 1 from by omega, isobathref03_at.l1, w64_id (x := s.nx * s.ny) (by omega), if_neg (by omega), w64_id (x := j + 1) (by omega), refC, List.append_nil]
 | m + 1, c, k, l, h0, h => by
  have n1 := hN.nx; have n2 := hN.ny; have n5 := hN.slots; have n6 := hN.layers
  obtain ⟨p0, p1⟩ := mul_in (a := s.nx) (b := s.ny) (m := 12) (n := 12) (by omega) (by omega) (by omega) (by omega)
  obtain ⟨i0, i1⟩ := index_in (q := j) (l := layer) (k := s.nx * s.ny) (c := c) (ll := s.slots) (kk := s.layers) hj0 hj1 hl0 hl1 h0 (by omega)
  obtain ⟨a0, a1⟩ := mul_in (a := j) (b := s.layers) (m := 16) (n := 3) (by omega) (by omega) (by omega) (by omega)
  obtain ⟨b0, b1⟩ := mul_in (a := j * s.layers + layer) (b := s.nx) (m := 51) (n := 12) (by omega) (by omega) (by omega) (by omega)
  obtain ⟨d0, d1⟩ := mul_in (a := (j * s.layers + layer) * s.nx) (b := s.ny) (m := 612) (n := 12) (by omega) (by omega) (by omega) (by omega)
  have hidx : wrap64 (wrap64 (wrap64 (wrap64 (wrap64 (j * s.layers) + layer) * s.nx) * s.ny) + c) = (j * s.layers + layer) * (s.nx * s.ny) + c := by
   rw [w64_id (x := j * s.layers) (by omega), w64_id (x := j * s.layers + layer) (by omega), w64_id (x := (j * s.layers + layer) * s.nx) (by omega), w64_id (x := (j * s.layers + layer) * s.nx * s.ny) (by omega), Int.mul_assoc (j * s.layers + layer) s.nx s.ny]
   rw [Int.mul_assoc] at d0 d1
   exact w64_id (by omega)
  rw [show m + 1 + 1 + k = (m + 1 + k) + 1 from by omega, isobathref03_at.l1, w64_id (x := s.nx * s.ny) (by omega), if_pos (by omega), ref_cell s hN c h0 (by omega), Option.bind_some, ref_touches, Option.bind_some, hidx, w64_id (x := c + 1) (by omega)]
  have et : ((decide (x.f0.f0 ≤ (c % s.nx + 1) * s.cell) && decide (c % s.nx * s.cell ≤ x.f0.f1)) && (decide (x.f1.f0 ≤ (c / s.nx + 1) * s.cell) && decide (c / s.nx * s.cell ≤ x.f1.f1))) = touchR s x c := rfl
  rw [et, refC]
  by_cases ht : touchR s x c = true
  ·rw [if_pos ht, if_pos ht, if_pos i0, if_pos (by omega), ← List.append_assoc]
   have ih := ref_cells s x layer t u j hN hcu hl0 hl1 hj0 hj1 m (c + 1) k (l ++ [curB s layer j c]) (by omega) (by omega)
   rw [← ih, isEmpty_snoc, outV_snoc]
   by_cases he : (!l.isEmpty) = true
   ·rw [if_pos he, if_pos he]
    unfold isobathref03_hull.f
    rw [Option.bind_some, Option.bind_some, mn_min', mx_max', mn_min', mx_max']
    rfl
   ·rw [if_neg he, if_neg he]
    rfl
  ·rw [if_neg ht, if_neg ht, List.nil_append]
   exact ref_cells s x layer t u j hN hcu hl0 hl1 hj0 hj1 m (c + 1) k l (by omega) (by omega)
theorem ref_slots (s : Sea) (x : S29) (layer t u : Int) (hN : SeaN s) (hcu : (s.currents.length : Int) = s.slots * s.layers * (s.nx * s.ny)) (hl0 : 0 ≤ layer) (hl1 : layer < s.layers) : ∀ (q : Nat) (j : Int) (k : Nat) (l : List S29), 0 ≤ j → j + (q : Int) = s.slots → q * 147 + 1 ≤ k →
  isobathref03_at.l0 k layer t u (!l.isEmpty) j s.nx s.ny s.cell s.slot s.slots s.layers s.most s.shores s.currents x.f0.f0 x.f0.f1 x.f1.f0 x.f1.f1 (outV l).f0.f0 (outV l).f0.f1 (outV l).f1.f0 (outV l).f1.f1
   = some ((outV (l ++ refL s x layer t u q j)).f0.f0, (outV (l ++ refL s x layer t u q j)).f0.f1, (outV (l ++ refL s x layer t u q j)).f1.f0, (outV (l ++ refL s x layer t u q j)).f1.f1)
 | 0, j, k + 1, l, h0, h, hk => by
  rw [isobathref03_at.l0, if_neg (by omega), refL, List.append_nil]
 | q + 1, j, k + 1, l, h0, h, hk => by
  obtain ⟨k, rfl⟩ : ∃ z, k = z + 1 := ⟨k - 1, by omega⟩
  have n1 := hN.nx; have n2 := hN.ny; have n5 := hN.slots; have n4 := hN.slot
  obtain ⟨p0, p1⟩ := mul_in (a := s.nx) (b := s.ny) (m := 12) (n := 12) (by omega) (by omega) (by omega) (by omega)
  obtain ⟨a0, a1⟩ := mul_in (a := j) (b := s.slot) (m := 16) (n := 1048576) (by omega) (by omega) (by omega) (by omega)
  obtain ⟨b0, b1⟩ := mul_in (a := j + 1) (b := s.slot) (m := 17) (n := 1048576) (by omega) (by omega) (by omega) (by omega)
  rw [isobathref03_at.l0, if_pos (by omega), w64_id (x := j * s.slot) (by omega), w64_id (x := j + 1) (by omega), w64_id (x := (j + 1) * s.slot) (by omega), refL]
  have ih := fun k l => ref_slots s x layer t u hN hcu hl0 hl1 q (j + 1) k l (by omega) (by omega)
  by_cases h1 : j * s.slot ≥ u
  ·rw [if_pos h1, if_pos (Or.inl h1), isobathref03_at.j1, if_pos rfl, w64_id (x := j + 1) (by omega), List.nil_append]
   exact ih k l (by omega)
  ·rw [if_neg h1]
   by_cases h2 : (j + 1) * s.slot ≤ t
   ·rw [decide_eq_true h2, if_pos (Or.inr h2), isobathref03_at.j1, if_pos rfl, w64_id (x := j + 1) (by omega), List.nil_append]
    exact ih k l (by omega)
   ·rw [decide_eq_false h2, if_neg (by omega), isobathref03_at.j1, if_neg (by decide), ← List.append_assoc]
    obtain ⟨k2, e⟩ : ∃ z, k = (s.nx * s.ny).toNat + 1 + z := ⟨k - (s.nx * s.ny).toNat - 1, by omega⟩
    rw [e, ref_cells s x layer t u j hN hcu hl0 hl1 h0 (by omega) (s.nx * s.ny).toNat 0 k2 l (Int.le_refl _) (by omega)]
    exact ih k2 _ (by omega)
/-- The reference's answer to At is the program's. -/
theorem ref_At (s : Sea) (x : S29) (layer t u : Int) (K : Nat) (hl : s.currents.length ≤ 100000) (hk : s.currents.length + 3 ≤ K) (hk' : 2400 ≤ K) :
  isobathref03_At.f K s.nx s.ny s.cell s.slot s.slots s.layers s.most s.shores s.currents x.f0.f0 x.f0.f1 x.f1.f0 x.f1.f1 layer t u = some ((AtV s x layer t u).f0.f0, (AtV s x layer t u).f0.f1, (AtV s x layer t u).f1.f0, (AtV s x layer t u).f1.f1, AtE s x layer t u) := by
 obtain ⟨K, rfl⟩ : ∃ k, K = k + 2 := ⟨K - 2, by omega⟩
 unfold isobathref03_At.f
 rw [ref_sea s (K + 2) hl hk, Option.bind_some, Option.bind_some, ref_box, Option.bind_some]
 have hno : ∀ e : Int, e ≠ 0 → AtE s x layer t u = e → some (0, 0, 0, 0, e) = some ((AtV s x layer t u).f0.f0, (AtV s x layer t u).f0.f1, (AtV s x layer t u).f1.f0, (AtV s x layer t u).f1.f1, AtE s x layer t u) := by
  intro e he h
  unfold AtV
  rw [h, if_neg he]; rfl
 by_cases h1 : seaE s = 0
 ·rw [if_pos h1]
  have hS : SeaV s := seaB_ok (by unfold seaE at h1; cases hb : seaB s with | true => rfl | false => rw [hb] at h1; cases h1)
  by_cases h2 : boxB x = true
  ·rw [if_pos h2]
   have hbx : boxE x = 0 := by unfold boxE; rw [if_pos h2]
   have hx := boxB_ok hbx
   have e0 : AtE s x layer t u = if layer < 0 ∨ layer ≥ s.layers then 3 else if t < 0 ∨ t ≥ u then 2 else if (containsI s x && knownI s t u) = true then 0 else 5 := by
    unfold AtE
    rw [if_neg (by omega), if_neg (by omega)]
   have hj0 : isobathref03_At.j0 (K + 2) layer t u true s.nx s.ny s.cell s.slot s.slots s.layers s.most s.shores s.currents x.f0.f0 x.f0.f1 x.f1.f0 x.f1.f1 = some (0, 0, 0, 0, 3) := by rw [isobathref03_At.j0, if_pos rfl]
   rw [hj0]
   by_cases h3 : layer < 0
   ·rw [if_pos h3]
    exact hno 3 (by decide) (by rw [e0, if_pos (Or.inl h3)])
   rw [if_neg h3]
   by_cases h4 : layer ≥ s.layers
   ·rw [decide_eq_true h4, hj0]
    exact hno 3 (by decide) (by rw [e0, if_pos (Or.inr h4)])
   rw [decide_eq_false h4, isobathref03_At.j0, if_neg (by decide)]
   rw [if_neg (by omega)] at e0
   have hj1 : isobathref03_At.j1 (K + 1) layer t u true s.nx s.ny s.cell s.slot s.slots s.layers s.most s.shores s.currents x.f0.f0 x.f0.f1 x.f1.f0 x.f1.f1 = some (0, 0, 0, 0, 2) := by rw [isobathref03_At.j1, if_pos rfl]
   rw [hj1]
   by_cases h5 : t < 0
   ·rw [if_pos h5]
    exact hno 2 (by decide) (by rw [e0, if_pos (Or.inl h5)])
   rw [if_neg h5]
   by_cases h6 : t ≥ u
   ·rw [decide_eq_true h6, hj1]
    exact hno 2 (by decide) (by rw [e0, if_pos (Or.inr h6)])
   rw [decide_eq_false h6, isobathref03_At.j1, if_neg (by decide)]
   rw [if_neg (by omega)] at e0
   have n1 := hS.n.nx; have n2 := hS.n.ny; have n3 := hS.n.cell; have n4 := hS.n.slot; have n5 := hS.n.slots
   obtain ⟨a0, a1⟩ := mul_in (a := s.nx) (b := s.cell) (m := 12) (n := 65536) (by omega) (by omega) (by omega) (by omega)
   obtain ⟨b0, b1⟩ := mul_in (a := s.ny) (b := s.cell) (m := 12) (n := 65536) (by omega) (by omega) (by omega) (by omega)
   obtain ⟨d0, d1⟩ := mul_in (a := s.slots) (b := s.slot) (m := 16) (n := 1048576) (by omega) (by omega) (by omega) (by omega)
   have i1 : isobathref03_inSea.f s.nx s.ny s.cell s.slot s.slots s.layers s.most s.shores s.currents x.f0.f0 x.f0.f1 x.f1.f0 x.f1.f1 = some (containsI s x) := by
    unfold isobathref03_inSea.f containsI
    rw [w64_id (x := s.nx * s.cell) (by omega), w64_id (x := s.ny * s.cell) (by omega)]
    by_cases g1 : 0 ≤ x.f0.f0 <;> by_cases g2 : x.f0.f1 ≤ s.nx * s.cell <;> by_cases g3 : 0 ≤ x.f1.f0 <;> simp [g1, g2, g3]
   have i2 : isobathref03_inTime.f s.nx s.ny s.cell s.slot s.slots s.layers s.most s.shores s.currents t u = some (knownI s t u) := by
    unfold isobathref03_inTime.f knownI
    rw [w64_id (x := s.slots * s.slot) (by omega)]
    by_cases g1 : 0 ≤ t <;> simp [g1]
   rw [i1, Option.bind_some, i2, Option.bind_some]
   by_cases h7 : containsI s x = true
   ·rw [if_pos h7]
    by_cases h8 : knownI s t u = true
    ·rw [if_pos h8]
     rw [h7, h8, if_pos (by decide)] at e0
     have hku := h8
     unfold knownI at hku
     simp only [Bool.and_eq_true, decide_eq_true_eq] at hku
     have hv : AtV s x layer t u = atI s x layer t u := by unfold AtV; rw [if_pos e0]
     rw [hv, e0, ← ref_boxes hS.n hx.2.1 hx.2.2 h7 hku.1 (by omega) hku.2]
     unfold isobathref03_at.f
     have := ref_slots s x layer t u hS.n hS.cu (by omega) (by omega) s.slots.toNat 0 K [] (Int.le_refl _) (by omega) (by omega)
     refine Eq.trans (congrArg (fun o => Option.bind o _) this) ?_
     rw [Option.bind_some, List.nil_append]
    ·rw [if_neg h8]
     rw [show (knownI s t u) = false from by simpa using h8, Bool.and_false, if_neg (by decide)] at e0
     exact hno 5 (by decide) e0
   ·rw [if_neg h7]
    rw [show (containsI s x) = false from by simpa using h7, Bool.false_and, if_neg (by decide)] at e0
    exact hno 5 (by decide) e0
  ·rw [if_neg h2]
   refine hno 2 (by decide) ?_
   unfold AtE boxE
   rw [if_neg (by omega), if_pos (by rw [if_neg h2]; decide)]
 ·rw [if_neg h1]
  refine hno _ h1 ?_
  unfold AtE
  rw [if_pos h1]
end Go.Proofs.Ythglkoddmpicdaa.Gl
end
