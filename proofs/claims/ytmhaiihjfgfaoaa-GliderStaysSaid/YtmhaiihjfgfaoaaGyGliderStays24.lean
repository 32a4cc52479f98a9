/- Part 24 of the proof of GliderStays: what the functions compute. No condition. -/
import Derived.SizedLaws
import Derived.ChangeSlices
import Derived.Deep.Slices
import Derived.ChangeArms
import Derived.DataReads
import Derived.WideShapes
import Derived.Test.YtmhaiihjfgfaoaaGyGliderStays3
import Derived.Test.YtmhaiihjfgfaoaaGyGliderStays15
import Derived.Test.YtmhaiihjfgfaoaaGyGliderStays21
import Derived.Test.YtmhaiihjfgfaoaaGyGliderStays6
import Derived.Test.YtmhaiihjfgfaoaaGyGliderStays23
section
-- PRINTED BY print.sh 35421559b90ae4d0a3588c463048766b98c2df88dd9212a6774a882060cdf62d: not written by this session
-- PRINTED WORDS (module Derived/Print/Sized.lean): go-gate-2's, for the rows of laws over slices: an AI agent of Go's test side, Tue Nov 17 2026; no person has read it. Lean checks it.
namespace Go.Proofs.YtmhaiihjfgfaoaaW.PrintWords
open Go.ChangeShapes Go.WideShapes
end Go.Proofs.YtmhaiihjfgfaoaaW.PrintWords
end
section
/- What is read of an argument of a law: a datum of a type reads as a value of its kind; its whole numbers are of their kind, and its slices are within the reach. No condition. -/
namespace Go.Proofs.YtmhaiihjfgfaoaaW.Opens
open Go.RowKit Go.Proofs.YtmhaiihjfgfaoaaW.PrintWords Go.Deep Go.ChangeShapes Go.WideShapes
set_option linter.unusedVariables false
section
variable {H : Type} {enc : TypeId × Value → H} {P : Program}

/-- A datum of type t reads as a value of the kind K of which G holds. -/
def Opens {α : Type} (enc : TypeId × Value → H) (P : Program) (t : TypeId) (K : Kd α) (G : α → Prop) : Prop :=
 ∀ (w : World) (fuel : Nat) (cs : List Value) (x : DataW H × List MemPlace), DataW.trod enc P w 0 (fun _ => true) true fuel t cs = some x → (DataW.weights P t x.1).all (· ≤ reachBytes) = true → ∃ y, K.K w y cs ∧ G y

theorem Opens.int {t : TypeId} {k : IntKind} (hu : P.underlying t = some (.int k)) : Opens enc P t (Kd.int k) (fun n => (Lit.int k n).wf = true) := by
 intro w fuel cs x h _
 cases fuel with
 | zero => simp [DataW.trod] at h
 | succ n =>
  unfold DataW.trod at h
  rw [hu] at h
  split at h <;> simp_all
  obtain ⟨⟨rfl, hw⟩, _⟩ := h
  rename_i n _ _
  exact ⟨_, rfl, hw⟩
theorem Opens.bool {t : TypeId} (hu : P.underlying t = some .bool) : Opens enc P t Kd.bool (fun _ => True) := by
 intro w fuel cs x h _
 cases fuel with
 | zero => simp [DataW.trod] at h
 | succ n =>
  unfold DataW.trod at h
  rw [hu] at h
  split at h <;> simp_all
  rename_i b _
  cases b
  ·exact .inl rfl
  ·exact .inr rfl

/-- The fields from offset off on. -/
def OpensFs {α : Type} (enc : TypeId × Value → H) (P : Program) (off : Nat) (fs : List Field) (K : Kd α) (G : α → Prop) : Prop :=
 ∀ (w : World) (fuel : Nat) (cs : List Value) (xs : List (DataW H × List MemPlace)), cs.length = off + K.sz → xs.length = fs.length →
  (∀ (i : Nat) (f : Field), fs[i]? = some f → DataW.trod enc P w 0 (fun _ => true) true fuel f.type ((cs.drop f.offset).take (P.cellsOf f.type)) = xs[i]?) →
  (DataW.weightsEach P (fs.map (·.type)) (xs.map (·.1))).all (· ≤ reachBytes) = true → ∃ y, K.K w y (cs.drop off) ∧ G y

theorem OpensFs.one {α : Type} {off : Nat} {f : Field} {K : Kd α} {G : α → Prop} (hoff : f.offset = off) (hsz : P.cellsOf f.type = K.sz) (h : Opens enc P f.type K G) : OpensFs enc P off [f] K G := by
 intro w fuel cs xs hl hx hi hw
 obtain ⟨x, rfl⟩ : ∃ x, xs = [x] := by
  match xs, hx with
  | [x], _ => exact ⟨x, rfl⟩
 have h1 := hi 0 f rfl
 rw [hoff, hsz, List.take_of_length_le (by simp; omega)] at h1
 exact h w fuel _ x h1 (by simpa [DataW.weightsEach] using hw)
theorem OpensFs.cons {α β : Type} {off : Nat} {f : Field} {fs : List Field} {K : Kd α} {G : α → Prop} {K' : Kd β} {G' : β → Prop} (hoff : f.offset = off) (hsz : P.cellsOf f.type = K.sz) (h : Opens enc P f.type K G) (h' : OpensFs enc P (off + K.sz) fs K' G') :
  OpensFs enc P off (f :: fs) (Kd.pair K K') (fun y => G y.1 ∧ G' y.2) := by
 intro w fuel cs xs hl hx hi hw
 obtain ⟨x, xs', rfl⟩ : ∃ x xs', xs = x :: xs' := by
  match xs, hx with
  | x :: xs', _ => exact ⟨x, xs', rfl⟩
 have hl2 : cs.length = off + (K.sz + K'.sz) := hl
 have h1 := hi 0 f rfl
 rw [hoff, hsz] at h1
 simp only [List.map_cons, DataW.weightsEach, List.all_append, Bool.and_eq_true] at hw
 obtain ⟨y, hy, gy⟩ := h w fuel _ x h1 hw.1
 obtain ⟨y', hy', gy'⟩ := h' w fuel cs xs' (by omega) (by simpa using hx) (fun i g hg => by simpa using hi (i + 1) g (by simpa using hg)) hw.2
 refine ⟨(y, y'), ⟨_, _, ?_, hy, hy'⟩, gy, gy'⟩
 rw [← List.drop_drop, List.take_append_drop]
theorem Opens.struct {α β : Type} {t : TypeId} {fs : Array Field} {K : Kd α} {G : α → Prop} {f : β → α} (g : α → β) (hu : P.underlying t = some (.struct fs)) (hsz : P.cellsOf t = K.sz) (hg : ∀ y, f (g y) = y) (h : OpensFs enc P 0 fs.toList K G) :
  Opens enc P t (Kd.iso K f) (fun z => G (f z)) := by
 intro w fuel cs x hx hw
 obtain ⟨xs, n, rfl, rfl, hl, hxl, hi⟩ := DataW.trod_struct hu hx
 obtain ⟨y, hy, gy⟩ := h w n cs xs (by omega) (by simpa using hxl) (fun i f hf => hi i f (by simpa using hf)) (by simpa [DataW.weights, hu] using hw)
 refine ⟨g y, ?_, by show G (f (g y)); rw [hg]; exact gy⟩
 show K.K w (f (g y)) cs
 rw [hg]
 simpa using hy

theorem list_of_lt {α : Type} {Q : Nat → α → Prop} : ∀ (n : Nat), (∀ i, i < n → ∃ y, Q i y) → ∃ ys : List α, ys.length = n ∧ ∀ i y, ys[i]? = some y → Q i y
 | 0, _ => ⟨[], rfl, fun i y h => by simp at h⟩
 | n + 1, h => by
  obtain ⟨ys, hl, hq⟩ := list_of_lt n (fun i hi => h i (by omega))
  obtain ⟨y, hy⟩ := h n (by omega)
  refine ⟨ys ++ [y], by simp [hl], fun i z hz => ?_⟩
  rw [List.getElem?_append] at hz
  split at hz
  ·exact hq i z hz
  ·rename_i hi
   obtain rfl : i = n := by
    have := (List.getElem?_eq_some_iff.1 hz).1
    simp at this
    omega
   simp [hl] at hz
   exact hz ▸ hy
theorem weightsAll_mem {e : TypeId} : ∀ {ds : List (DataW H)} {d : DataW H}, (DataW.weightsAll P e ds).all (· ≤ reachBytes) = true → d ∈ ds → (DataW.weights P e d).all (· ≤ reachBytes) = true
 | [], _, _, h => by cases h
 | a :: r, d, hw, h => by
  simp only [DataW.weightsAll, List.all_append, Bool.and_eq_true] at hw
  rcases List.mem_cons.1 h with rfl | h
  ·exact hw.1
  ·exact weightsAll_mem hw.2 h
theorem Opens.slice {α : Type} {t e : TypeId} (e' : Nat) {K : Kd α} {G : α → Prop} (hu : P.underlying t = some (.slice e)) (hsz : P.cellsOf e = K.sz) (h : Opens enc P e K G) :
  Opens enc P t (Kd.slice e' K) (fun ys => (∀ y ∈ ys, G y) ∧ ys.length * P.bytesOf e ≤ reachBytes) := by
 intro w fuel cs x hx hw
 rcases open_slice hu hx with ⟨rfl, rfl⟩ | ⟨a, len, cap, m, n, D, Pl, rfl, hb, hl, hm, hmm, rfl, hi⟩
 ·exact ⟨[], ⟨none, 0, rfl, by simp, ⟨rfl, by simp, fun h => by simp at h⟩⟩, by simp, by simp⟩
 ·have hmc : m = cap := by simpa using hmm
  subst hmc
  simp only [DataW.weights, hu, List.all_cons, List.all_append, Bool.and_eq_true, decide_eq_true_eq, List.length_map, List.length_range] at hw
  obtain ⟨ys, hyl, hys⟩ := list_of_lt (Q := fun i y => (∃ cs', w.cells? 0 (a.add (i * P.cellsOf e)) (P.cellsOf e) = some cs' ∧ K.K w y cs') ∧ G y) len (fun i hil => by
   obtain ⟨cs', hc, ht⟩ := hi i (by omega)
   obtain ⟨y, hy, gy⟩ := h w n cs' _ ht (weightsAll_mem hw.2.1 (List.mem_map.2 ⟨i, List.mem_range.2 hil, rfl⟩))
   exact ⟨y, ⟨cs', hc, hy⟩, gy⟩)
  refine ⟨ys, ⟨some a, m, by rw [hyl], by omega, hyl.trans hyl.symm |>.trans (by rfl), ?_, fun _ => ⟨a, rfl, fun j p hj => ?_⟩⟩, fun y hy => ?_, ?_⟩
  ·unfold maxLen at hm
   omega
  ·obtain ⟨⟨cs', hc, hk⟩, _⟩ := hys j p hj
   obtain ⟨_, hcl, hcell⟩ := World.cells?_some hc
   refine ⟨cs', by rw [hcl, hsz], hk, fun i u hu' => ?_⟩
   have hlt := (List.getElem?_eq_some_iff.1 hu').1
   rw [← Go.Deep.add_add, ← hsz, hcell i (by omega), hu']
  ·obtain ⟨j, hj⟩ := List.getElem?_of_mem hy
   exact (hys j y hj).2
  ·refine Nat.le_trans (Nat.mul_le_mul_right _ (show ys.length ≤ len + (m - len) by omega)) hw.1
/-- An argument of a law. -/
theorem Opens.arg {α : Type} {t : TypeId} {K : Kd α} {G : α → Prop} (h : Opens enc P t K G) {w : World} {v : Value} {d : DataW H} {p : List MemPlace} (ht : DataW.Trod enc P w 0 (fun _ => true) true t v d p)
  {ts : List TypeId} {ds : List (DataW H)} (hsz : (DataW.weightsEach P ts ds).all (· ≤ reachBytes) = true) {j : Nat} (hj : ts[j]? = some t) (hd : ds[j]? = some d) : ∃ y, K.K w y v.cells.toList ∧ G y := by
 obtain ⟨fuel, hf⟩ := ht
 exact h w fuel _ _ hf (List.all_eq_true.2 fun n hn => List.all_eq_true.1 hsz _ (DataW.weights_mem_each hj hd n hn))
end
end Go.Proofs.YtmhaiihjfgfaoaaW.Opens
end
section
/- What is known of the arguments of the laws. -/
namespace Go.Proofs.Ytmhaiihjfgfaoaa.Good
open Go.RowKit Go.Proofs.YtmhaiihjfgfaoaaW.PrintWords Go.Proofs.YtmhaiihjfgfaoaaW.PrintLast Go.Proofs.YtmhaiihjfgfaoaaW.PrintMore Go.Proofs.Ytmhaiihjfgfaoaa.Pr Go.Proofs.YtmhaiihjfgfaoaaW.Opens
set_option linter.unusedVariables false
def W27 (x : S27) : Prop := (Lit.int .i64 x.f0).wf = true ∧ (Lit.int .i64 x.f1).wf = true
theorem opens27 {H : Type} {enc : TypeId × Value → H} : Opens enc Try.prog 27 k27 W27 := Opens.struct (fun p => ⟨p.1, p.2⟩) Try.underlying27 zq5 (fun _ => rfl) (OpensFs.cons rfl zq5 (Opens.int Try.underlying2) (OpensFs.one rfl zq5 (Opens.int Try.underlying2)))
def W40 (x : S40) : Prop := W27 x.f0 ∧ W27 x.f1
theorem opens40 {H : Type} {enc : TypeId × Value → H} : Opens enc Try.prog 40 k40 W40 := Opens.struct (fun p => ⟨p.1, p.2⟩) Try.underlying40 zq5 (fun _ => rfl) (OpensFs.cons rfl zq5 opens27 (OpensFs.one rfl zq5 opens27))
def W25 (x : S25) : Prop := (Lit.int .i64 x.f0).wf = true ∧ (Lit.int .i64 x.f1).wf = true ∧ (Lit.int .i64 x.f2).wf = true ∧ (Lit.int .i64 x.f3).wf = true ∧ (Lit.int .i64 x.f4).wf = true ∧ (Lit.int .i64 x.f5).wf = true ∧ (Lit.int .i64 x.f6).wf = true ∧ ((∀ y ∈ x.f7, True) ∧ x.f7.length * Try.prog.bytesOf 4 ≤ reachBytes) ∧ ((∀ y ∈ x.f8, W40 y) ∧ x.f8.length * Try.prog.bytesOf 40 ≤ reachBytes)
theorem opens25 {H : Type} {enc : TypeId × Value → H} : Opens enc Try.prog 25 k25 W25 := Opens.struct (fun p => ⟨p.1, p.2.1, p.2.2.1, p.2.2.2.1, p.2.2.2.2.1, p.2.2.2.2.2.1, p.2.2.2.2.2.2.1, p.2.2.2.2.2.2.2.1, p.2.2.2.2.2.2.2.2⟩) Try.underlying25 zq5 (fun _ => rfl) (OpensFs.cons rfl zq5 (Opens.int Try.underlying3) (OpensFs.cons rfl zq5 (Opens.int Try.underlying3) (OpensFs.cons rfl zq5 (Opens.int Try.underlying2) (OpensFs.cons rfl zq5 (Opens.int Try.underlying2) (OpensFs.cons rfl zq5 (Opens.int Try.underlying3) (OpensFs.cons rfl zq5 (Opens.int Try.underlying3) (OpensFs.cons rfl zq5 (Opens.int Try.underlying2) (OpensFs.cons rfl zq5 (Opens.slice 4 Try.underlying22 zq5 (Opens.bool Try.underlying4)) (OpensFs.one rfl zq5 (Opens.slice 40 Try.underlying23 zq5 opens40))))))))))
def W29 (x : S29) : Prop := (Lit.int .i64 x.f0).wf = true ∧ (Lit.int .i64 x.f1).wf = true ∧ W27 x.f2 ∧ W27 x.f3 ∧ (Lit.int .i64 x.f4).wf = true
theorem opens29 {H : Type} {enc : TypeId × Value → H} : Opens enc Try.prog 29 k29 W29 := Opens.struct (fun p => ⟨p.1, p.2.1, p.2.2.1, p.2.2.2.1, p.2.2.2.2⟩) Try.underlying29 zq5 (fun _ => rfl) (OpensFs.cons rfl zq5 (Opens.int Try.underlying2) (OpensFs.cons rfl zq5 (Opens.int Try.underlying2) (OpensFs.cons rfl zq5 opens27 (OpensFs.cons rfl zq5 opens27 (OpensFs.one rfl zq5 (Opens.int Try.underlying2))))))
def W31 (x : S31) : Prop := W27 x.f0 ∧ W27 x.f1
theorem opens31 {H : Type} {enc : TypeId × Value → H} : Opens enc Try.prog 31 k31 W31 := Opens.struct (fun p => ⟨p.1, p.2⟩) Try.underlying31 zq5 (fun _ => rfl) (OpensFs.cons rfl zq5 opens27 (OpensFs.one rfl zq5 opens27))
def W33 (x : S33) : Prop := (Lit.int .i64 x.f0).wf = true ∧ (Lit.int .i64 x.f1).wf = true
theorem opens33 {H : Type} {enc : TypeId × Value → H} : Opens enc Try.prog 33 k33 W33 := Opens.struct (fun p => ⟨p.1, p.2⟩) Try.underlying33 zq5 (fun _ => rfl) (OpensFs.cons rfl zq5 (Opens.int Try.underlying3) (OpensFs.one rfl zq5 (Opens.int Try.underlying3)))
end Go.Proofs.Ytmhaiihjfgfaoaa.Good
end
section
/- Hulls of boxes, the cells that a box touches: what grows with what. Plain law, no program. -/
namespace Go.Proofs.Ytmhaiihjfgfaoaa.Gl
open Go.RowKit Go.Proofs.YtmhaiihjfgfaoaaW.PrintWords Go.Proofs.YtmhaiihjfgfaoaaW.PrintLast Go.Proofs.YtmhaiihjfgfaoaaW.PrintMore Go.Proofs.Ytmhaiihjfgfaoaa.Pr
set_option linter.unusedVariables false
/-- A box lies in another. -/
def SubB (a b : S31) : Prop := b.f0.f0 ≤ a.f0.f0 ∧ a.f0.f1 ≤ b.f0.f1 ∧ b.f1.f0 ≤ a.f1.f0 ∧ a.f1.f1 ≤ b.f1.f1
theorem SubB.rfl' (a : S31) : SubB a a := ⟨Int.le_refl _, Int.le_refl _, Int.le_refl _, Int.le_refl _⟩
theorem SubB.trans {a b c : S31} (h : SubB a b) (k : SubB b c) : SubB a c := by unfold SubB at *; omega
theorem hullB_up {a b : S31} : SubB a (hullB a b) ∧ SubB b (hullB a b) := by
 unfold SubB hullB
 dsimp only
 omega
theorem hullB_low {a b c : S31} (h : SubB a c) (k : SubB b c) : SubB (hullB a b) c := by
 unfold SubB hullB at *
 dsimp only
 omega
theorem hull_fold : ∀ (l : List S31) (z : S31), ∃ y, l.foldl hullO (some z) = some y ∧ (SubB z y ∧ ∀ a ∈ l, SubB a y) ∧ ∀ b, SubB z b → (∀ a ∈ l, SubB a b) → SubB y b
 | [], z => ⟨z, rfl, ⟨SubB.rfl' z, fun a h => by cases h⟩, fun b h _ => h⟩
 | x :: l, z => by
  obtain ⟨y, h, ⟨h1, h2⟩, h3⟩ := hull_fold l (hullB z x)
  refine ⟨y, h, ⟨hullB_up.1.trans h1, fun a ha => ?_⟩, fun b hb hl => h3 b (hullB_low hb (hl x (List.mem_cons_self ..))) fun a ha => hl a (List.mem_cons_of_mem _ ha)⟩
  rcases List.mem_cons.1 ha with rfl | ha
  ·exact hullB_up.2.trans h1
  ·exact h2 a ha
theorem hull_of {l : List S31} (h : l ≠ []) : ∃ y, hullL l = some y ∧ (∀ a ∈ l, SubB a y) ∧ ∀ b, (∀ a ∈ l, SubB a b) → SubB y b := by
 cases l with
 | nil => exact absurd rfl h
 | cons x l =>
  obtain ⟨y, h, ⟨h1, h2⟩, h3⟩ := hull_fold l x
  refine ⟨y, h, fun a ha => ?_, fun b hl => h3 b (hl x (List.mem_cons_self ..)) fun a ha => hl a (List.mem_cons_of_mem _ ha)⟩
  rcases List.mem_cons.1 ha with rfl | ha
  ·exact h1
  ·exact h2 a ha
theorem outV_mono {l l' : List S31} (h : l ≠ []) (hs : ∀ a ∈ l, ∃ b ∈ l', SubB a b) : SubB (outV l) (outV l') := by
 obtain ⟨y, e, h1, h2⟩ := hull_of h
 have h' : l' ≠ [] := by
  intro e'
  cases l with
  | nil => exact h rfl
  | cons x l =>
   obtain ⟨b, hb, _⟩ := hs x (List.mem_cons_self ..)
   rw [e'] at hb; cases hb
 obtain ⟨y', e', h1', h2'⟩ := hull_of h'
 unfold outV
 rw [e, e']
 exact h2 y' fun a ha => by
  obtain ⟨b, hb, hs⟩ := hs a ha
  exact hs.trans (h1' b hb)
theorem mem_allT {nx i0 k0 c : Int} {n m : Nat} : c ∈ allT nx i0 n k0 m ↔ ∃ r : Nat, r < m ∧ ∃ j : Nat, j < n ∧ c = (k0 + (r : Int)) * nx + (i0 + (j : Int)) := by
 unfold allT rowT
 simp only [List.mem_flatMap, List.mem_range, List.mem_map]
 constructor
 ·rintro ⟨r, hr, j, hj, rfl⟩
  exact ⟨r, hr, j, hj, rfl⟩
 ·rintro ⟨r, hr, j, hj, rfl⟩
  exact ⟨r, hr, j, hj, rfl⟩
/-- The cells of a range of columns and a range of rows. -/
theorem mem_cells {nx a b c d k : Int} : k ∈ allT nx a (b + 1 - a).toNat c (d + 1 - c).toNat ↔ ∃ r i : Int, (c ≤ r ∧ r ≤ d) ∧ (a ≤ i ∧ i ≤ b) ∧ k = r * nx + i := by
 rw [mem_allT]
 constructor
 ·rintro ⟨r, hr, j, hj, rfl⟩
  exact ⟨c + r, a + j, by omega, by omega, rfl⟩
 ·rintro ⟨r, i, hr, hi, rfl⟩
  exact ⟨(r - c).toNat, by omega, (i - a).toNat, by omega, by rw [show c + ((r - c).toNat : Int) = r from by omega, show a + ((i - a).toNat : Int) = i from by omega]⟩
theorem mem_touch {s : Sea} {x : S31} {k : Int} : k ∈ touchL s x ↔ ∃ r i : Int, ((numI s.cell x.f1 s.ny).1 ≤ r ∧ r ≤ (numI s.cell x.f1 s.ny).2) ∧ ((numI s.cell x.f0 s.nx).1 ≤ i ∧ i ≤ (numI s.cell x.f0 s.nx).2) ∧ k = r * s.nx + i := mem_cells
theorem first_le (c x : Int) : firstI c x ≤ x / c ∧ x / c - 1 ≤ firstI c x := by unfold firstI; split <;> omega
theorem first_mono {c x y : Int} (hc : 0 < c) (h : x ≤ y) : firstI c x ≤ firstI c y := by
 have h1 : x / c ≤ y / c := Int.ediv_le_ediv hc h
 by_cases hy : 0 < y / c ∧ y % c = 0
 ·by_cases e : x = y
  ·rw [e]; exact Int.le_refl _
  ·have h2 : y = c * (y / c) := by have := Int.emod_add_mul_ediv y c; omega
   have h3 : x / c < y / c := Int.ediv_lt_of_lt_mul hc (by rw [Int.mul_comm]; omega)
   have := (first_le c x).1
   have := (first_le c y).2
   omega
 ·have h4 : firstI c y = y / c := by unfold firstI; rw [if_neg hy]
  have := (first_le c x).1
  omega
theorem num_mono {c most : Int} {a b : S27} (hc : 0 < c) (h0 : b.f0 ≤ a.f0) (h1 : a.f1 ≤ b.f1) : (numI c b most).1 ≤ (numI c a most).1 ∧ (numI c a most).2 ≤ (numI c b most).2 := by
 have := first_mono hc h0
 have := Int.ediv_le_ediv hc h1
 unfold numI
 dsimp only
 omega
theorem num_some {c most : Int} {a : S27} (hc : 0 < c) (h : a.f0 ≤ a.f1) : (numI c a most).1 ≤ (numI c a most).2 := by
 have := (first_le c a.f0).1
 have := Int.ediv_le_ediv hc h
 unfold numI
 dsimp only
 omega
/-- Seas of one shape. -/
def SameS (s s' : Sea) : Prop := s'.nx = s.nx ∧ s'.ny = s.ny ∧ s'.cell = s.cell ∧ s'.slot = s.slot ∧ s'.slots = s.slots ∧ s'.layers = s.layers ∧ s'.most = s.most
theorem touch_mono {s s' : Sea} {x x' : S31} (hs : SameS s s') (hc : 0 < s.cell) (h : SubB x x') {k : Int} (hk : k ∈ touchL s x) : k ∈ touchL s' x' := by
 obtain ⟨h1, h2, h3, _⟩ := hs
 obtain ⟨r, i, hr, hi, e⟩ := mem_touch.1 hk
 obtain ⟨a0, a1⟩ := num_mono (c := s.cell) (most := s.nx) (a := x.f0) (b := x'.f0) hc h.1 h.2.1
 obtain ⟨b0, b1⟩ := num_mono (c := s.cell) (most := s.ny) (a := x.f1) (b := x'.f1) hc h.2.2.1 h.2.2.2
 refine mem_touch.2 ⟨r, i, ?_, ?_, ?_⟩
 ·rw [h3, h2]; omega
 ·rw [h3, h1]; omega
 ·rw [h1]; exact e
theorem touch_some {s : Sea} {x : S31} (hc : 0 < s.cell) (h0 : x.f0.f0 ≤ x.f0.f1) (h1 : x.f1.f0 ≤ x.f1.f1) : ∃ k, k ∈ touchL s x := by
 have a := num_some (c := s.cell) (most := s.nx) (a := x.f0) hc h0
 have b := num_some (c := s.cell) (most := s.ny) (a := x.f1) hc h1
 exact ⟨_, mem_touch.2 ⟨_, _, ⟨Int.le_refl _, b⟩, ⟨Int.le_refl _, a⟩, rfl⟩⟩
theorem mem_boxes {s : Sea} {x : S31} {layer j0 : Int} {q : Nat} {y : S31} : y ∈ boxesL s x layer j0 q ↔ ∃ r : Nat, r < q ∧ ∃ c ∈ touchL s x, y = curB s layer (j0 + (r : Int)) c := by
 unfold boxesL slotL
 simp only [List.mem_flatMap, List.mem_range, List.mem_map]
 constructor
 ·rintro ⟨r, hr, c, hc, rfl⟩
  exact ⟨r, hr, c, hc, rfl⟩
 ·rintro ⟨r, hr, c, hc, rfl⟩
  exact ⟨r, hr, c, hc, rfl⟩
theorem span_some {t u d : Int} (hd : 0 < d) (h : t < u) : 0 < ((u - 1) / d + 1 - t / d).toNat := by
 have := Int.ediv_le_ediv (a := t) (b := u - 1) hd (by omega)
 omega
/-- The currents that a box may meet grow with the box and with the sea. -/
theorem at_mono {s s' : Sea} {x x' : S31} {layer t u : Int} (hs : SameS s s') (hN : SeaN s) (hcu : ∀ i : Int, SubB ⟨(rd_T40 s.currents i).f0, (rd_T40 s.currents i).f1⟩ ⟨(rd_T40 s'.currents i).f0, (rd_T40 s'.currents i).f1⟩)
  (h : SubB x x') (h0 : x.f0.f0 ≤ x.f0.f1) (h1 : x.f1.f0 ≤ x.f1.f1) (ht : t < u) : SubB (atI s x layer t u) (atI s' x' layer t u) := by
 have hc : 0 < s.cell := by have := hN.cell; omega
 have hd : 0 < s.slot := by have := hN.slot; omega
 unfold atI
 rw [hs.2.2.2.1]
 refine outV_mono ?_ fun y hy => ?_
 ·obtain ⟨k, hk⟩ := touch_some (s := s) hc h0 h1
  exact List.ne_nil_of_mem (mem_boxes.2 ⟨0, span_some hd ht, k, hk, rfl⟩)
 ·obtain ⟨r, hr, c, hc', rfl⟩ := mem_boxes.1 hy
  refine ⟨_, mem_boxes.2 ⟨r, hr, c, touch_mono hs hc h hc', rfl⟩, ?_⟩
  unfold curB
  rw [hs.1, hs.2.1, hs.2.2.2.2.2.1]
  exact hcu _
theorem shift_mono {dive speed : Int} {a b u v : S27} (hd : 0 ≤ dive) (h : b.f0 ≤ a.f0 ∧ a.f1 ≤ b.f1) (k : v.f0 ≤ u.f0 ∧ u.f1 ≤ v.f1) : (shiftI dive b speed v).f0 ≤ (shiftI dive a speed u).f0 ∧ (shiftI dive a speed u).f1 ≤ (shiftI dive b speed v).f1 := by
 have h0 : (speed + 1000 * v.f0) * dive ≤ (speed + 1000 * u.f0) * dive := Int.mul_le_mul_of_nonneg_right (by omega) hd
 have h1 : (speed + 1000 * u.f1) * dive ≤ (speed + 1000 * v.f1) * dive := Int.mul_le_mul_of_nonneg_right (by omega) hd
 unfold shiftI downM upM
 dsimp only
 generalize (speed + 1000 * v.f0) * dive = A at *
 generalize (speed + 1000 * u.f0) * dive = B at *
 generalize (speed + 1000 * v.f1) * dive = C at *
 generalize (speed + 1000 * u.f1) * dive = D at *
 omega
theorem grown_mono {s s' : Sea} {v : Veh} {x x' : S31} (hs : SameS s s') (h : SubB x x') : SubB (grownI s v x) (grownI s' v x') := by
 unfold grownI
 rw [hs.2.2.2.2.2.2]
 unfold SubB at *
 dsimp only
 omega
theorem grown_ok {s : Sea} {v : Veh} {x : S31} (hS : SeaN s) (hV : VehN v) (hx : BoxOK x) : (grownI s v x).f0.f0 ≤ (grownI s v x).f0.f1 ∧ (grownI s v x).f1.f0 ≤ (grownI s v x).f1.f1 := by
 have := (mul_in (a := v.speed + s.most) (b := v.dive) (m := 10000) (n := 131072) (by have := hV.speed; have := hS.most; omega) (by have := hV.speed; have := hS.most; omega) (by have := hV.dive; omega) hV.dive.2).1
 unfold grownI
 obtain ⟨_, h0, h1⟩ := hx
 dsimp only
 omega
theorem ends_mono {s s' : Sea} {v : Veh} {x x' : S31} {t hd layer : Int} (hs : SameS s s') (hN : SeaN s) (hV : VehN v) (hx : BoxOK x) (hcu : ∀ i : Int, SubB ⟨(rd_T40 s.currents i).f0, (rd_T40 s.currents i).f1⟩ ⟨(rd_T40 s'.currents i).f0, (rd_T40 s'.currents i).f1⟩)
  (h : SubB x x') : SubB (endsI s v x (grownI s v x) t hd layer) (endsI s' v x' (grownI s' v x') t hd layer) := by
 obtain ⟨g0, g1⟩ := grown_ok (s := s) hN hV hx
 have ha := at_mono (layer := layer) (t := t) (u := t + v.dive) hs hN hcu (grown_mono (v := v) hs h) g0 g1 (by have := hV.dive; omega)
 have hq : 0 ≤ v.dive := by have := hV.dive; omega
 unfold endsI
 obtain ⟨p0, p1⟩ := shift_mono (speed := (dirI hd).1 * v.speed) hq ⟨h.1, h.2.1⟩ ⟨ha.1, ha.2.1⟩
 obtain ⟨q0, q1⟩ := shift_mono (speed := (dirI hd).2 * v.speed) hq ⟨h.2.2.1, h.2.2.2⟩ ⟨ha.2.2.1, ha.2.2.2⟩
 exact ⟨p0, p1, q0, q1⟩
end Go.Proofs.Ytmhaiihjfgfaoaa.Gl
end
section
/- Runs end their dives in the hulls, and in boxes that are a proof. -/
namespace Go.Proofs.Ytmhaiihjfgfaoaa.Gl
open Go.RowKit Go.Proofs.YtmhaiihjfgfaoaaW.PrintWords Go.Proofs.YtmhaiihjfgfaoaaW.PrintLast Go.Proofs.Ytmhaiihjfgfaoaa.Pr
/-- A small box in order. -/
def Sm (b : S31) : Prop := (-4000000 ≤ b.f0.f0 ∧ b.f0.f0 ≤ b.f0.f1 ∧ b.f0.f1 ≤ 4000000) ∧ -4000000 ≤ b.f1.f0 ∧ b.f1.f0 ≤ b.f1.f1 ∧ b.f1.f1 ≤ 4000000
theorem ends_small {s : Sea} {v : Veh} {x : S31} {t hd layer : Int} (hS : SeaV s) (hV : VehN v) (hx : BoxOK x) (hr : reachE s v x t = 0) : Sm (endsI s v x (grownI s v x) t hd layer) := by
 obtain ⟨_, _, ⟨a0, a1⟩, b0, b1⟩ := reach_ok hS.n hV hx hr
 obtain ⟨_, o1, o2⟩ := hx
 have hdv := hV.dive
 have hsp := hV.speed
 have hdi := dirI_in hd
 have hai := at_in hS.cb (grownI s v x) layer t (t + v.dive)
 unfold endsI shiftI Sm downM upM
 dsimp only
 generalize atI s (grownI s v x) layer t (t + v.dive) = y at *
 generalize dirI hd = d at *
 obtain ⟨⟨y0, y1⟩, ⟨y2, y3⟩, ⟨y4, y5⟩, ⟨y6, y7⟩, y8, y9⟩ := hai
 have m0 := mul_abs (a := d.1) (b := v.speed) (m := 1000) (n := 5000) hdi.1.1 hdi.1.2 hsp.1 hsp.2 (by omega)
 have m1 := mul_abs (a := d.2) (b := v.speed) (m := 1000) (n := 5000) hdi.2.1 hdi.2.2 hsp.1 hsp.2 (by omega)
 generalize d.1 * v.speed = e at *
 generalize d.2 * v.speed = f at *
 have n0 := mul_abs (a := e + 1000 * y.f0.f0) (b := v.dive) (m := 10000000) (n := 131072) (by omega) (by omega) (by omega) (by omega) (by omega)
 have n1 := mul_abs (a := e + 1000 * y.f0.f1) (b := v.dive) (m := 10000000) (n := 131072) (by omega) (by omega) (by omega) (by omega) (by omega)
 have n2 := mul_abs (a := f + 1000 * y.f1.f0) (b := v.dive) (m := 10000000) (n := 131072) (by omega) (by omega) (by omega) (by omega) (by omega)
 have n3 := mul_abs (a := f + 1000 * y.f1.f1) (b := v.dive) (m := 10000000) (n := 131072) (by omega) (by omega) (by omega) (by omega) (by omega)
 have k0 := Int.mul_le_mul_of_nonneg_right (show e + 1000 * y.f0.f0 ≤ e + 1000 * y.f0.f1 by omega) (show 0 ≤ v.dive by omega)
 have k1 := Int.mul_le_mul_of_nonneg_right (show f + 1000 * y.f1.f0 ≤ f + 1000 * y.f1.f1 by omega) (show 0 ≤ v.dive by omega)
 generalize (e + 1000 * y.f0.f0) * v.dive = A at *
 generalize (e + 1000 * y.f0.f1) * v.dive = B at *
 generalize (f + 1000 * y.f1.f0) * v.dive = C at *
 generalize (f + 1000 * y.f1.f1) * v.dive = E at *
 clear m0 m1 hdi hdv hsp hr
 omega
theorem Sm.ok {b : S31} (h : Sm b) : BoxOK b := by unfold Sm at h; unfold BoxOK SmallB; omega
theorem Sm.hull {a b : S31} (h : Sm a) (k : Sm b) : Sm (hullB a b) := by
 unfold Sm at *
 unfold hullB
 dsimp only
 omega
theorem okS_of {a b : Int} (h : a ≤ b) (h0 : -4000000 ≤ a) (h1 : b ≤ 4000000) : okS a b = true := by rw [okS_iff]; omega
theorem Sm.boxB {b : S31} (h : Sm b) : boxB b = true := by
 unfold Sm at h
 unfold Gl.boxB
 rw [okS_of h.1.2.1 h.1.1 h.1.2.2, okS_of h.2.2.1 h.2.1 h.2.2.2]
 simp only [Bool.true_and, Bool.and_eq_true, btwB_iff]
 omega
theorem inI_of {a b : S27} (h0 : okS a.f0 a.f1 = true) (h1 : okS b.f0 b.f1 = true) (ha : a.f0 ≤ a.f1) (h : b.f0 ≤ a.f0 ∧ a.f1 ≤ b.f1) : inI a b = 2 := by
 unfold inI
 rw [h0, h1, if_pos (show (true && true) = true from rfl), if_pos (by omega), if_pos h]
/-- What is in a box is told to be in it. -/
theorem insI_sub {a b : S31} (ha : Sm a) (hb : Sm b) (h : SubB a b) : insI a b = 2 := by
 unfold Sm at ha hb
 unfold SubB at h
 unfold insI
 rw [inI_of (okS_of ha.1.2.1 ha.1.1 ha.1.2.2) (okS_of hb.1.2.1 hb.1.1 hb.1.2.2) ha.1.2.1 ⟨h.1, h.2.1⟩, inI_of (okS_of ha.2.2.1 ha.2.1 ha.2.2.2) (okS_of hb.2.2.1 hb.2.1 hb.2.2.2) ha.2.2.1 ⟨h.2.2.1, h.2.2.2⟩]
 rfl
theorem inI_sub {a b : S27} (h : inI a b = 2) : b.f0 ≤ a.f0 ∧ a.f1 ≤ b.f1 := by
 unfold inI at h
 split at h
 ·split at h
  ·split at h
   ·assumption
   ·omega
  ·omega
 ·omega
theorem sub_insI {a b : S31} (h : insI a b = 2) : SubB a b := by
 unfold insI at h
 have h0 := inI_two a.f0 b.f0
 have h1 := inI_two a.f1 b.f1
 obtain ⟨p0, p1⟩ := inI_sub (a := a.f0) (b := b.f0) (by omega)
 obtain ⟨q0, q1⟩ := inI_sub (a := a.f1) (b := b.f1) (by omega)
 exact ⟨p0, p1, q0, q1⟩
theorem mem_crs {s : Sea} {c : S33} (hl : 1 ≤ s.layers) (h0 : 0 ≤ c.f0) (h1 : c.f0 ≤ 8) (h2 : 0 ≤ c.f1) (h3 : c.f1 < s.layers) : c ∈ crsL s := by
 unfold crsL allC rowC
 rw [List.mem_flatMap]
 refine ⟨c.f0.toNat, List.mem_range.2 (by omega), ?_⟩
 rw [List.mem_map]
 refine ⟨c.f1.toNat, List.mem_range.2 (by omega), ?_⟩
 obtain ⟨a, b⟩ := c
 dsimp only at *
 rw [Int.toNat_of_nonneg h0, Int.toNat_of_nonneg h2]
theorem hullP_up {s : Sea} {v : Veh} {x g : S31} {t : Int} : ∀ (l : List S33) (A : S31), SubB A (hullP s v x g t A l) ∧ ∀ c ∈ l, SubB (endsI s v x g t c.f0 c.f1) (hullP s v x g t A l)
 | [], A => ⟨SubB.rfl' A, fun c h => by cases h⟩
 | d :: l, A => by
  have ih := hullP_up (s := s) (v := v) (x := x) (g := g) (t := t) l (hullB A (endsI s v x g t d.f0 d.f1))
  have e : hullP s v x g t A (d :: l) = hullP s v x g t (hullB A (endsI s v x g t d.f0 d.f1)) l := rfl
  rw [e]
  refine ⟨hullB_up.1.trans ih.1, fun c hc => ?_⟩
  rcases List.mem_cons.1 hc with rfl | hc
  ·exact hullB_up.2.trans ih.1
  ·exact ih.2 c hc
theorem hullP_small {s : Sea} {v : Veh} {x : S31} {t : Int} (hS : SeaV s) (hV : VehN v) (hx : BoxOK x) (hr : reachE s v x t = 0) : ∀ (l : List S33) (A : S31), Sm A → Sm (hullP s v x (grownI s v x) t A l)
 | [], A, h => h
 | c :: l, A, h => hullP_small hS hV hx hr l _ (h.hull (ends_small hS hV hx hr))
theorem stepH_small {s : Sea} {v : Veh} {x : S31} {t : Int} (hS : SeaV s) (hV : VehN v) (hx : BoxOK x) (hr : reachE s v x t = 0) : Sm (stepH s v x t) := hullP_small hS hV hx hr _ _ (ends_small hS hV hx hr)
/-- Each dive from a box, by any course, ends in the next one. -/
def Chain (s : Sea) (v : Veh) : S31 → Int → List S31 → Prop
 | _, _, [] => True
 | y, t, b :: l => reachE s v y t = 0 ∧ BoxOK b ∧ (∀ c ∈ crsL s, SubB (endsI s v y (grownI s v y) t c.f0 c.f1) b) ∧ Chain s v b (t + v.dive) l
theorem hull_chain {s : Sea} {v : Veh} (hS : SeaV s) (hV : VehN v) : ∀ (n : Nat) (y : S31) (t : Int) (out : List S31), BoxOK y → (hullsI s v n y t out).2 = 0 → ∃ Bs, (hullsI s v n y t out).1 = out ++ Bs ∧ Bs.length = n ∧ Chain s v y t Bs ∧ ∀ b ∈ Bs, Sm b
 | 0, y, t, out, hy, h => ⟨[], by unfold hullsI; simp, rfl, trivial, fun b hb => by cases hb⟩
 | n + 1, y, t, out, hy, h => by
  unfold hullsI at h ⊢
  by_cases hr : reachE s v y t = 0
  case neg =>
   rw [if_pos hr] at h
   exact absurd h hr
  rw [if_neg (fun q => q hr)] at h ⊢
  have hsm := stepH_small hS hV hy hr
  obtain ⟨Bs, e, hl, hc, hb⟩ := hull_chain hS hV n _ _ _ hsm.ok h
  refine ⟨stepH s v y t :: Bs, by rw [e, List.append_assoc]; rfl, by rw [List.length_cons, hl], ⟨hr, hsm.ok, (hullP_up _ _).2, hc⟩, fun b hb2 => ?_⟩
  rcases List.mem_cons.1 hb2 with rfl | hb2
  ·exact hsm
  ·exact hb b hb2
theorem insF_two {s : Sea} {v : Veh} {x g : S31} {t : Int} {tb : S31} (hi : ∀ c ∈ crsL s, insI (endsI s v x g t c.f0 c.f1) tb = 2) : ∀ (l : List S33) (a : Int), (∀ c ∈ l, c ∈ crsL s) → insF s v x g t tb a l = a
 | [], a, _ => rfl
 | c :: l, a, h => by
  have e : insF s v x g t tb a (c :: l) = insF s v x g t tb (if insI (endsI s v x g t c.f0 c.f1) tb = 2 then a else 16) l := rfl
  rw [e, if_pos (hi c (h c List.mem_cons_self)), insF_two hi l a (fun d hd => h d (List.mem_cons_of_mem _ hd))]
theorem insF_bad {s : Sea} {v : Veh} {x g : S31} {t : Int} {tb : S31} : ∀ (l : List S33), insF s v x g t tb 16 l = 16
 | [] => rfl
 | c :: l => by
  have e : insF s v x g t tb 16 (c :: l) = insF s v x g t tb (if insI (endsI s v x g t c.f0 c.f1) tb = 2 then 16 else 16) l := rfl
  rw [e, ite_self]
  exact insF_bad l
theorem insF_zero {s : Sea} {v : Veh} {x g : S31} {t : Int} {tb : S31} : ∀ (l : List S33), insF s v x g t tb 0 l = 0 ∧ (∀ c ∈ l, insI (endsI s v x g t c.f0 c.f1) tb = 2) ∨ insF s v x g t tb 0 l = 16
 | [] => .inl ⟨rfl, fun c h => by cases h⟩
 | c :: l => by
  have e : insF s v x g t tb 0 (c :: l) = insF s v x g t tb (if insI (endsI s v x g t c.f0 c.f1) tb = 2 then 0 else 16) l := rfl
  by_cases hc : insI (endsI s v x g t c.f0 c.f1) tb = 2
  ·rw [e, if_pos hc]
   rcases insF_zero (s := s) (v := v) (x := x) (g := g) (t := t) (tb := tb) l with ⟨h0, h1⟩ | h
   ·refine .inl ⟨h0, fun d hd => ?_⟩
    rcases List.mem_cons.1 hd with rfl | hd
    ·exact hc
    ·exact h1 d hd
   ·exact .inr h
  ·rw [e, if_neg hc]
   exact .inr (insF_bad l)
theorem reach_five (s : Sea) (v : Veh) (x : S31) (t : Int) : reachE s v x t = 0 ∨ reachE s v x t = 5 := by
 unfold reachE
 split
 ·exact .inl rfl
 ·exact .inr rfl
theorem ck_bad {s : Sea} {v : Veh} : ∀ (l : List S31) (y : S31) (t : Int), ckI s v l y t 16 ≠ 0
 | [], y, t => by unfold ckI; decide
 | b :: l, y, t => by
  unfold ckI
  rcases reach_five s v y t with h | h
  ·rw [if_neg (fun q => q h)]
   unfold insAll
   rw [insF_bad]
   exact ck_bad l _ _
  ·rw [h, if_pos (by decide)]; decide
theorem chain_ck {s : Sea} {v : Veh} (hS : SeaV s) (hV : VehN v) : ∀ (l : List S31) (y : S31) (t : Int), BoxOK y → Chain s v y t l → (∀ b ∈ l, Sm b) → ckI s v l y t 0 = 0
 | [], y, t, _, _, _ => rfl
 | b :: l, y, t, hy, ⟨hr, hb, hc, hch⟩, hs => by
  unfold ckI
  rw [if_neg (fun q => q hr)]
  unfold insAll
  rw [insF_two (fun c hcm => insI_sub (ends_small hS hV hy hr) (hs b List.mem_cons_self) (hc c hcm)) _ _ (fun c h => h)]
  exact chain_ck hS hV l b _ hb hch (fun d hd => hs d (List.mem_cons_of_mem _ hd))
theorem ck_chain {s : Sea} {v : Veh} : ∀ (l : List S31) (y : S31) (t : Int), (∀ b ∈ l, BoxOK b) → ckI s v l y t 0 = 0 → Chain s v y t l
 | [], y, t, _, _ => trivial
 | b :: l, y, t, hb, h => by
  unfold ckI at h
  rcases reach_five s v y t with hr | hr
  ·rw [if_neg (fun q => q hr)] at h
   unfold insAll at h
   rcases insF_zero (s := s) (v := v) (x := y) (g := grownI s v y) (t := t) (tb := b) (crsL s) with ⟨h0, h1⟩ | h0
   ·rw [h0] at h
    exact ⟨hr, hb b List.mem_cons_self, fun c hc => sub_insI (h1 c hc), ck_chain l b _ (fun d hd => hb d (List.mem_cons_of_mem _ hd)) h⟩
   ·rw [h0] at h
    exact absurd h (ck_bad l _ _)
  ·rw [hr] at h
   cases h
theorem ran_out (s : Sea) (v : Veh) : ∀ (l : List S33) (x : S31) (t n : Int) (out : List S31), (ranI s v l x t n out).2.2 = 0 → (ranI s v l x t n out).2.1 = n + (l.length : Int) ∧ (ranI s v l x t n out).1.length = out.length + l.length ∧ out <+: (ranI s v l x t n out).1
 | [], x, t, n, out, h => by unfold ranI; exact ⟨by simp, by simp, List.prefix_refl _⟩
 | c :: l, x, t, n, out, h => by
  unfold ranI at h ⊢
  split at h
  ·rename_i hn
   exact absurd h hn
  ·rename_i hn
   rw [if_neg hn]
   obtain ⟨h1, h2, h3⟩ := ran_out s v l _ _ _ _ h
   exact ⟨by rw [h1, List.length_cons]; omega, by rw [h2]; simp only [List.length_append, List.length_cons, List.length_nil]; omega, (List.prefix_append _ _).trans h3⟩
theorem SameS.rfl' (s : Sea) : SameS s s := ⟨rfl, rfl, rfl, rfl, rfl, rfl, rfl⟩
/-- Each dive of a run ends in the box of the chain. -/
theorem ran_chain {s : Sea} {v : Veh} (hS : SeaV s) (hV : VehN v) : ∀ (l : List S33) (Bs : List S31) (x y : S31) (t n : Int) (out : List S31), l.all (crsB s.layers) = true → BoxOK x → SubB x y → Chain s v y t Bs → (ranI s v l x t n out).2.2 = 0 →
  ∀ (i : Nat) (r b : S31), (ranI s v l x t n out).1[out.length + i]? = some r → Bs[i]? = some b → SubB r b
 | [], Bs, x, y, t, n, out, _, _, _, _, _, i, r, b, hr, _ => by
  unfold ranI at hr
  have := (List.getElem?_eq_some_iff.1 hr).1
  dsimp only at this
  omega
 | c :: l, [], x, y, t, n, out, _, _, _, _, _, i, r, b, _, hb => by cases hb
 | c :: l, z :: Bs, x, y, t, n, out, hall, hx, hsub, ⟨hry, hz, hzc, hch⟩, hrun, i, r, b, hr, hb => by
  unfold ranI at hrun hr
  by_cases hD : diveE s v x t = 0
  case neg =>
   rw [if_pos hD] at hrun
   exact absurd hrun hD
  rw [if_neg (fun q => q hD)] at hrun hr
  rw [List.all_cons, Bool.and_eq_true] at hall
  obtain ⟨⟨hh0, hh1⟩, hl0, hl1⟩ := crsB_ok hS.n.layers.1 hall.1
  have hmem := mem_crs (s := s) (c := c) hS.n.layers.1 hh0 hh1 hl0 hl1
  have hdv : diveV s v x t c.f0 c.f1 = endsI s v x (grownI s v x) t c.f0 c.f1 := by unfold diveV; rw [if_pos hD]
  have hst : SubB (diveV s v x t c.f0 c.f1) z := by
   rw [hdv]
   exact (ends_mono (SameS.rfl' s) hS.n hV hx (fun j => SubB.rfl' _) hsub).trans (hzc c hmem)
  have hbx := dive_box (hd := c.f0) (layer := c.f1) hS hV hx hD
  cases i with
  | zero =>
   obtain ⟨_, _, w, hw⟩ := ran_out s v l _ _ _ _ hrun
   rw [← hw, Nat.add_zero, List.append_assoc, List.getElem?_append_right (Nat.le_refl _), Nat.sub_self] at hr
   rw [List.getElem?_cons_zero] at hb
   cases hb
   rw [List.singleton_append, List.getElem?_cons_zero] at hr
   cases hr
   exact hst
  | succ i =>
   rw [List.getElem?_cons_succ] at hb
   refine ran_chain hS hV l Bs _ z _ _ _ hall.2 hbx hst hch hrun i r b ?_ hb
   rw [List.length_append, List.length_singleton, Nat.add_assoc, Nat.add_comm 1 i]
   exact hr
end Go.Proofs.Ytmhaiihjfgfaoaa.Gl
end
section
/- What the document's answer says of seas, vehicles and boxes: the same as the program. -/
namespace Go.Proofs.Ytmhaiihjfgfaoaa.Gl
open Go.RowKit Go.Proofs.YtmhaiihjfgfaoaaW.PrintWords Go.Proofs.YtmhaiihjfgfaoaaW.PrintLast Go.Proofs.YtmhaiihjfgfaoaaW.PrintMore Go.Proofs.Ytmhaiihjfgfaoaa.Pr
set_option linter.unusedVariables false
theorem w64_id {x : Int} (h : -9223372036854775808 ≤ x ∧ x < 9223372036854775808) : wrap64 x = x := by unfold wrap64; omega
theorem ref_valid (lo hi : Int) : isobathref01_Valid.f lo hi = some (okS lo hi) := by
 unfold isobathref01_Valid.f isobathref01_Within.f
 rw [show okS lo hi = (decide (lo ≤ hi) && (decide (-1073741824 ≤ lo) && decide (lo ≤ 1073741824)) && (decide (-1073741824 ≤ hi) && decide (hi ≤ 1073741824))) from by
  rw [Bool.eq_iff_iff, okS_iff]; simp only [Bool.and_eq_true, decide_eq_true_eq]; omega]
 by_cases h1 : lo ≤ hi <;> by_cases h2 : -1073741824 ≤ lo <;> by_cases h3 : lo ≤ 1073741824 <;> by_cases h4 : -1073741824 ≤ hi <;> by_cases h5 : hi ≤ 1073741824 <;> simp [h1, h2, h3, h4, h5]
theorem ref_bounded (lo hi a b : Int) : isobathref03_bounded.f lo hi a b = some (bndB lo hi a b) := by
 unfold isobathref03_bounded.f bndB
 rw [ref_valid, Option.bind_some]
 cases okS lo hi with
 | false => rfl
 | true =>
  by_cases h : a ≤ lo <;> simp [h]
theorem ref_within (x lo hi : Int) : isobathref01_Within.f x lo hi = some (btwB x lo hi) := by
 unfold isobathref01_Within.f btwB
 by_cases h : lo ≤ x <;> simp [h]
theorem ref_box (x : S31) : isobathref01_ValidBox.f x.f0.f0 x.f0.f1 x.f1.f0 x.f1.f1 = some (boxB x) := by
 unfold isobathref01_ValidBox.f boxB
 simp only [ref_valid, ref_within, Option.bind_some]
 cases okS x.f0.f0 x.f0.f1 <;> cases okS x.f1.f0 x.f1.f1 <;> cases btwB x.f0.f0 (-268435456) 268435456 <;> cases btwB x.f0.f1 (-268435456) 268435456 <;> cases btwB x.f1.f0 (-268435456) 268435456 <;> cases btwB x.f1.f1 (-268435456) 268435456 <;> rfl
theorem ref_veh (v : Veh) : isobathref03_CheckVehicle.f v.speed v.dive v.use.f0 v.use.f1 v.drift.f0 v.drift.f1 v.reserve = some (vehE v) := by
 unfold isobathref03_CheckVehicle.f vehE vehB btwB
 simp only [ref_bounded, Option.bind_some]
 by_cases h1 : v.speed < 0
 ·rw [if_pos h1, show decide (0 ≤ v.speed) = false from decide_eq_false (by omega)]; rfl
 rw [if_neg h1, show decide (0 ≤ v.speed) = true from decide_eq_true (by omega)]
 by_cases h2 : v.speed > 5000
 ·rw [if_pos h2, show decide (v.speed ≤ 5000) = false from decide_eq_false (by omega)]; rfl
 rw [if_neg h2, show decide (v.speed ≤ 5000) = true from decide_eq_true (by omega)]
 by_cases h3 : v.dive < 1
 ·rw [if_pos h3, show decide (1 ≤ v.dive) = false from decide_eq_false (by omega)]; rfl
 rw [if_neg h3, show decide (1 ≤ v.dive) = true from decide_eq_true (by omega)]
 by_cases h4 : v.dive > 131072
 ·rw [if_pos h4, show decide (v.dive ≤ 131072) = false from decide_eq_false (by omega)]; rfl
 rw [if_neg h4, show decide (v.dive ≤ 131072) = true from decide_eq_true (by omega)]
 cases bndB v.use.f0 v.use.f1 0 1073741824
 ·rfl
 cases bndB v.drift.f0 v.drift.f1 0 1073741824
 ·rfl
 by_cases h5 : v.reserve < 0
 ·rw [if_pos h5, show decide (0 ≤ v.reserve) = false from decide_eq_false (by omega)]; rfl
 rw [if_neg h5, show decide (0 ≤ v.reserve) = true from decide_eq_true (by omega)]
 by_cases h6 : v.reserve > 1073741824
 ·rw [if_pos h6, show decide (v.reserve ≤ 1073741824) = false from decide_eq_false (by omega)]; rfl
 rw [if_neg h6, show decide (v.reserve ≤ 1073741824) = true from decide_eq_true (by omega)]; rfl
theorem sea_loop (s : Sea) (hm : 0 ≤ s.most ∧ s.most ≤ 5000) (hl : s.currents.length ≤ 100000) : ∀ (m i K : Nat), i + m = s.currents.length → m + 1 ≤ K →
  isobathref03_CheckSea.l0 K (i : Int) s.nx s.ny s.cell s.slot s.slots s.layers s.most s.shores s.currents = some (if (s.currents.drop i).any (badC s.most) then 2 else 0)
 | 0, i, K + 1, h, hk => by
  rw [isobathref03_CheckSea.l0, if_neg (by omega), List.drop_eq_nil_of_le (by omega)]; rfl
 | m + 1, i, K + 1, h, hk => by
  have hi : i < s.currents.length := by omega
  rw [isobathref03_CheckSea.l0, if_pos (by omega), if_pos (by omega), w64_id (x := -s.most) (by omega), w64_id (x := (i : Int) + 1) (by omega)]
  have e : rd_T40 s.currents (i : Int) = s.currents[i] := by
   unfold rd_T40
   simp [hi]
  rw [e, ref_bounded, Option.bind_some, ref_bounded, Option.bind_some, List.drop_eq_getElem_cons hi, List.any_cons]
  have ih := sea_loop s hm hl m (i + 1) K (by omega) (by omega)
  rw [show ((i + 1 : Nat) : Int) = (i : Int) + 1 from by omega] at ih
  rw [ih, show badC s.most s.currents[i] = (!bndB s.currents[i].f0.f0 s.currents[i].f0.f1 (-s.most) s.most || !bndB s.currents[i].f1.f0 s.currents[i].f1.f1 (-s.most) s.most) from rfl]
  cases bndB s.currents[i].f0.f0 s.currents[i].f0.f1 (-s.most) s.most
  ·rfl
  cases bndB s.currents[i].f1.f0 s.currents[i].f1.f1 (-s.most) s.most
  ·rfl
  rfl
theorem ref_sea (s : Sea) (K : Nat) (hl : s.currents.length ≤ 100000) (hk : s.currents.length + 3 ≤ K) : isobathref03_CheckSea.f K s.nx s.ny s.cell s.slot s.slots s.layers s.most s.shores s.currents = some (seaE s) := by
 obtain ⟨K, rfl⟩ : ∃ k, K = k + 2 := ⟨K - 2, by omega⟩
 have hj : isobathref03_CheckSea.j0 (K + 2) true s.nx s.ny s.cell s.slot s.slots s.layers s.most s.shores s.currents = some 2 := by rw [isobathref03_CheckSea.j0, if_pos rfl]
 unfold isobathref03_CheckSea.f seaE seaB
 rw [hj]
 unfold btwB
 by_cases h1 : s.nx < 1
 ·rw [if_pos h1, show decide (1 ≤ s.nx) = false from decide_eq_false (by omega)]; rfl
 rw [if_neg h1, show decide (1 ≤ s.nx) = true from decide_eq_true (by omega)]
 by_cases h2 : s.nx > 12
 ·rw [if_pos h2, show decide (s.nx ≤ 12) = false from decide_eq_false (by omega)]; rfl
 rw [if_neg h2, show decide (s.nx ≤ 12) = true from decide_eq_true (by omega)]
 by_cases h3 : s.ny < 1
 ·rw [if_pos h3, show decide (1 ≤ s.ny) = false from decide_eq_false (by omega)]; rfl
 rw [if_neg h3, show decide (1 ≤ s.ny) = true from decide_eq_true (by omega)]
 by_cases h4 : s.ny > 12
 ·rw [if_pos h4, show decide (s.ny ≤ 12) = false from decide_eq_false (by omega)]; rfl
 rw [if_neg h4, show decide (s.ny ≤ 12) = true from decide_eq_true (by omega)]
 by_cases h5 : s.cell < 100
 ·rw [if_pos h5, show decide (100 ≤ s.cell) = false from decide_eq_false (by omega)]; rfl
 rw [if_neg h5, show decide (100 ≤ s.cell) = true from decide_eq_true (by omega)]
 by_cases h6 : s.cell > 65536
 ·rw [if_pos h6, show decide (s.cell ≤ 65536) = false from decide_eq_false (by omega)]; rfl
 rw [if_neg h6, show decide (s.cell ≤ 65536) = true from decide_eq_true (by omega)]
 by_cases h7 : s.slot < 1
 ·rw [if_pos h7, show decide (1 ≤ s.slot) = false from decide_eq_false (by omega)]; rfl
 rw [if_neg h7, show decide (1 ≤ s.slot) = true from decide_eq_true (by omega)]
 by_cases h8 : s.slot > 1048576
 ·rw [if_pos h8, show decide (s.slot ≤ 1048576) = false from decide_eq_false (by omega)]; rfl
 rw [if_neg h8, show decide (s.slot ≤ 1048576) = true from decide_eq_true (by omega)]
 by_cases h9 : s.slots < 1
 ·rw [if_pos h9, show decide (1 ≤ s.slots) = false from decide_eq_false (by omega)]; rfl
 rw [if_neg h9, show decide (1 ≤ s.slots) = true from decide_eq_true (by omega)]
 by_cases h10 : s.slots > 16
 ·rw [if_pos h10, show decide (s.slots ≤ 16) = false from decide_eq_false (by omega)]; rfl
 rw [if_neg h10, show decide (s.slots ≤ 16) = true from decide_eq_true (by omega)]
 by_cases h11 : s.layers < 1
 ·rw [if_pos h11, show decide (1 ≤ s.layers) = false from decide_eq_false (by omega)]; rfl
 rw [if_neg h11, show decide (1 ≤ s.layers) = true from decide_eq_true (by omega)]
 by_cases h12 : s.layers > 3
 ·rw [if_pos h12, show decide (s.layers ≤ 3) = false from decide_eq_false (by omega)]; rfl
 rw [if_neg h12, show decide (s.layers ≤ 3) = true from decide_eq_true (by omega)]
 by_cases h13 : s.most < 0
 ·rw [if_pos h13, show decide (0 ≤ s.most) = false from decide_eq_false (by omega)]; rfl
 rw [if_neg h13, show decide (0 ≤ s.most) = true from decide_eq_true (by omega)]
 by_cases h14 : s.most > 5000
 ·rw [show decide (s.most > 5000) = true from decide_eq_true h14, hj, show decide (s.most ≤ 5000) = false from decide_eq_false (by omega)]; rfl
 rw [show decide (s.most > 5000) = false from decide_eq_false h14, show decide (s.most ≤ 5000) = true from decide_eq_true (by omega)]
 obtain ⟨n0, n1⟩ := mul_in (a := s.nx) (b := s.ny) (m := 12) (n := 12) (by omega) (by omega) (by omega) (by omega)
 obtain ⟨m0, m1⟩ := mul_in (a := s.slots) (b := s.layers) (m := 16) (n := 3) (by omega) (by omega) (by omega) (by omega)
 obtain ⟨q0, q1⟩ := mul_in (a := s.slots * s.layers) (b := s.nx * s.ny) (m := 48) (n := 144) (by omega) (by omega) (by omega) (by omega)
 obtain ⟨p0, p1⟩ := mul_in (a := s.slots * s.layers) (b := s.nx) (m := 48) (n := 12) (by omega) (by omega) (by omega) (by omega)
 have ea : s.layers * s.slots = s.slots * s.layers := Int.mul_comm _ _
 have eb : s.slots * s.layers * s.nx * s.ny = s.slots * s.layers * (s.nx * s.ny) := by rw [Int.mul_assoc]
 rw [isobathref03_CheckSea.j0, if_neg (by decide), w64_id (x := s.nx * s.ny) (by omega)]
 by_cases h15 : (s.shores.length : Int) = s.nx * s.ny
 ·rw [if_pos h15, decide_eq_true h15, isobathref03_CheckSea.j1, w64_id (x := s.slots * s.layers) (by omega), w64_id (x := s.slots * s.layers * s.nx) (by omega), eb, w64_id (x := s.slots * s.layers * (s.nx * s.ny)) (by omega)]
  by_cases h16 : (s.currents.length : Int) = s.slots * s.layers * (s.nx * s.ny)
  ·rw [if_neg (by rw [h16]; simp), decide_eq_true h16]
   have := sea_loop s (by omega) hl s.currents.length 0 K (by omega) (by omega)
   rw [show ((0 : Nat) : Int) = 0 from rfl, List.drop_zero] at this
   rw [this]
   cases s.currents.any (badC s.most) <;> rfl
  ·rw [if_pos (by simpa using h16), decide_eq_false h16]; rfl
 ·rw [if_neg h15, decide_eq_false h15, isobathref03_CheckSea.j1, if_pos rfl]; rfl
theorem ref_great (s : Sea) : isobathlaw03_great.f s.nx s.ny s.cell s.slot s.slots s.layers s.most s.shores s.currents = some (decide ((s.shores.length : Int) > 200) || decide ((s.currents.length : Int) > 3000)) := by
 unfold isobathlaw03_great.f
 by_cases h : (s.shores.length : Int) > 200 <;> simp [h]
/-- Is all of it valid, and of a size that is looked at? -/
def valB (s : Sea) (v : Veh) (x : S31) (t : Int) : Bool := !decide ((s.shores.length : Int) > 200) && !decide ((s.currents.length : Int) > 3000) && seaB s && vehB v && boxB x && decide (0 ≤ t) && decide (t ≤ 1073741824)
theorem ref_val (s : Sea) (v : Veh) (x : S31) (t : Int) (K : Nat) (hk : 3003 ≤ K) : isobathlaw03_valid.f K s.nx s.ny s.cell s.slot s.slots s.layers s.most s.shores s.currents v.speed v.dive v.use.f0 v.use.f1 v.drift.f0 v.drift.f1 v.reserve x.f0.f0 x.f0.f1 x.f1.f0 x.f1.f1 t = some (valB s v x t) := by
 unfold isobathlaw03_valid.f valB
 rw [ref_great, Option.bind_some]
 by_cases h1 : (s.shores.length : Int) > 200
 ·rw [decide_eq_true h1]; rfl
 by_cases h2 : (s.currents.length : Int) > 3000
 ·rw [decide_eq_true h2, decide_eq_false h1]; rfl
 rw [decide_eq_false h1, decide_eq_false h2, if_neg (by decide), ref_sea s K (by omega) (by omega), Option.bind_some, ref_veh, Option.bind_some, ref_box, Option.bind_some]
 unfold seaE vehE
 cases seaB s
 ·rfl
 cases vehB v
 ·rfl
 cases boxB x
 ·rfl
 by_cases h3 : t ≥ 0
 ·rw [if_pos rfl, if_pos rfl, if_pos rfl, if_pos h3, show decide (0 ≤ t) = true from decide_eq_true h3]; rfl
 ·rw [if_pos rfl, if_pos rfl, if_pos rfl, if_neg h3, show decide (0 ≤ t) = false from decide_eq_false h3]; rfl
end Go.Proofs.Ytmhaiihjfgfaoaa.Gl
end
section
/- If CheckReach accepts boxes, each run of at most as many dives ends its dives in them; it accepts the hull reach. -/
namespace Go.Proofs.Ytmhaiihjfgfaoaa.Pure
open Go.RowKit Go.Proofs.YtmhaiihjfgfaoaaW.PrintWords Go.Proofs.YtmhaiihjfgfaoaaW.PrintLast Go.Proofs.Ytmhaiihjfgfaoaa.Pr Go.Proofs.Ytmhaiihjfgfaoaa.Good Go.Proofs.Ytmhaiihjfgfaoaa.Gl
namespace Stays
theorem works {k : Nat} (h : 60 ≤ k) : isobathlaw03_Works.f k = some true := at_rounds isobathlaw03_Works.mono h isobathlaw03_Works.true_
theorem within_of {a b : S31} (h : SubB a b) : isobathlaw03_within.f a.f0.f0 a.f0.f1 a.f1.f0 a.f1.f1 b.f0.f0 b.f0.f1 b.f1.f0 b.f1.f1 = some true := by
 unfold isobathlaw03_within.f
 obtain ⟨h0, h1, h2, h3⟩ := h
 rw [if_pos h0, if_pos h1, if_pos h2, decide_eq_true h3]
theorem rd_box {l : List S31} {i : Nat} (h : i < l.length) : rd_T31 l (i : Int) = l[i] := by unfold rd_T31; simp [h]
section
variable (s : Sea) (v : Veh) (x : S31) (t : Int) (boxes run hulls : List S31) (e : Int) (hl : run.length ≤ 6) (hb6 : boxes.length ≤ 6)
 (H1 : e = 0 → hulls.length = run.length ∧ ∀ (i : Nat) (r b : S31), run[i]? = some r → hulls[i]? = some b → SubB r b)
 (H2 : CkX s v x t boxes = 0 → ∀ (i : Nat) (r b : S31), run[i]? = some r → boxes[i]? = some b → SubB r b)
include hl hb6
theorem loop1 (h2 : ∀ (i : Nat) (r b : S31), run[i]? = some r → boxes[i]? = some b → SubB r b) : ∀ (m i K : Nat), i + m = run.length → 2 * m + 64 ≤ K → isobathlaw03_GliderStays.l1 K boxes run (i : Int) = some true := by
 intro m
 induction m with
 | zero =>
  intro i K h hk
  obtain ⟨K, rfl⟩ : ∃ z, K = z + 2 := ⟨K - 2, by omega⟩
  rw [isobathlaw03_GliderStays.l1, if_neg (by omega), isobathlaw03_GliderStays.j5, if_neg (by decide), works (by omega)]; rfl
 | succ m ih =>
  intro i K h hk
  obtain ⟨K, rfl⟩ : ∃ z, K = z + 2 := ⟨K - 2, by omega⟩
  have hi : i < run.length := by omega
  rw [isobathlaw03_GliderStays.l1, if_pos (by omega), isobathlaw03_GliderStays.j5]
  by_cases hb : i < boxes.length
  ·have hs := h2 i run[i] boxes[i] (List.getElem?_eq_getElem hi) (List.getElem?_eq_getElem hb)
   have hc : ((i + 1 : Nat) : Int) = (i : Int) + 1 := by omega
   rw [decide_eq_true (show (i : Int) < (boxes.length : Int) by omega), if_pos rfl, if_pos (by omega), if_pos (by omega), if_pos (by omega), rd_box hi, rd_box hb, within_of hs, Option.bind_some, if_pos rfl, w64_id (x := (i : Int) + 1) (by omega), ← hc]
   exact ih (i + 1) K (by omega) (by omega)
  ·rw [decide_eq_false (show ¬((i : Int) < (boxes.length : Int)) by omega), if_neg (by decide), works (by omega)]; rfl
include H1 H2
theorem loop0 : ∀ (m i K : Nat), i + m = run.length → 2 * m + 90 ≤ K → isobathlaw03_GliderStays.l0 K t boxes hulls e run (i : Int) s.nx s.ny s.cell s.slot s.slots s.layers s.most s.shores s.currents v.speed v.dive v.use.f0 v.use.f1 v.drift.f0 v.drift.f1 v.reserve x.f0.f0 x.f0.f1 x.f1.f0 x.f1.f1 = some true := by
 have hend : ∀ (i : Int) (K : Nat), 80 ≤ K → isobathlaw03_GliderStays.j3 K t boxes hulls e run i false s.nx s.ny s.cell s.slot s.slots s.layers s.most s.shores s.currents v.speed v.dive v.use.f0 v.use.f1 v.drift.f0 v.drift.f1 v.reserve x.f0.f0 x.f0.f1 x.f1.f0 x.f1.f1 = some true := by
  intro i K hk
  obtain ⟨K, rfl⟩ : ∃ z, K = z + 1 := ⟨K - 1, by omega⟩
  have hcp : glider_CheckReach.f s.nx s.ny s.cell s.slot s.slots s.layers s.most s.shores s.currents v.speed v.dive v.use.f0 v.use.f1 v.drift.f0 v.drift.f1 v.reserve x.f0.f0 x.f0.f1 x.f1.f0 x.f1.f1 t boxes = some (CkX s v x t boxes) := rfl
  rw [isobathlaw03_GliderStays.j3, if_neg (by decide), hcp, Option.bind_some]
  by_cases hz : CkX s v x t boxes = 0
  ·rw [if_pos hz]
   exact loop1 boxes run hl hb6 (H2 hz) run.length 0 K (Nat.zero_add _) (by omega)
  ·rw [if_neg hz, works (by omega)]; rfl
 intro m
 induction m with
 | zero =>
  intro i K h hk
  obtain ⟨K, rfl⟩ : ∃ z, K = z + 1 := ⟨K - 1, by omega⟩
  rw [isobathlaw03_GliderStays.l0, if_neg (by omega)]
  exact hend _ K (by omega)
 | succ m ih =>
  intro i K h hk
  obtain ⟨K, rfl⟩ : ∃ z, K = z + 1 := ⟨K - 1, by omega⟩
  have hi : i < run.length := by omega
  rw [isobathlaw03_GliderStays.l0, if_pos (by omega)]
  by_cases he : e = 0
  case neg =>
   rw [show (e == 0) = false from beq_eq_false_iff_ne.2 he]
   exact hend _ K (by omega)
  obtain ⟨hlen, hsub⟩ := H1 he
  obtain ⟨K, rfl⟩ : ∃ z, K = z + 1 := ⟨K - 1, by omega⟩
  have hb : i < hulls.length := by omega
  have hs := hsub i run[i] hulls[i] (List.getElem?_eq_getElem hi) (List.getElem?_eq_getElem hb)
  have hc : ((i + 1 : Nat) : Int) = (i : Int) + 1 := by omega
  rw [show (e == 0) = true from beq_iff_eq.2 he, isobathlaw03_GliderStays.j3, if_pos rfl, if_pos (by omega), if_pos (by omega), if_pos (by omega), rd_box hi, rd_box hb, within_of hs, Option.bind_some, if_pos rfl, w64_id (x := (i : Int) + 1) (by omega), ← hc]
  exact ih (i + 1) K (by omega) (by omega)
end
end Stays
open Stays in
theorem GliderStays : ∀ (x0 : S25) (x1 : S29) (x2 : S31) (x3 : Int) (x4 : (List S31)) (x5 : (List S33)), W25 x0 → W29 x1 → W31 x2 → (Lit.int .i64 x3).wf = true → ((∀ y ∈ x4, W31 y) ∧ x4.length * Try.prog.bytesOf 31 ≤ reachBytes) → ((∀ y ∈ x5, W33 y) ∧ x5.length * Try.prog.bytesOf 33 ≤ reachBytes) → ∃ k, isobathlaw03_GliderStays.f k (x0.f0) (x0.f1) (x0.f2) (x0.f3) (x0.f4) (x0.f5) (x0.f6) (x0.f7) (x0.f8) (x1.f0) (x1.f1) (x1.f2.f0) (x1.f2.f1) (x1.f3.f0) (x1.f3.f1) (x1.f4) (x2.f0.f0) (x2.f0.f1) (x2.f1.f0) (x2.f1.f1) x3 x4 x5 = some true := by
 intro x0 x1 x2 x3 x4 x5 g0 g1 g2 g3 g4 g5
 let s : Sea := ⟨x0.f0, x0.f1, x0.f2, x0.f3, x0.f4, x0.f5, x0.f6, x0.f7, x0.f8⟩
 let v : Veh := ⟨x1.f0, x1.f1, ⟨x1.f2.f0, x1.f2.f1⟩, ⟨x1.f3.f0, x1.f3.f1⟩, x1.f4⟩
 have main : ∀ K : Nat, 4000 ≤ K → isobathlaw03_GliderStays.f (K + 2) s.nx s.ny s.cell s.slot s.slots s.layers s.most s.shores s.currents v.speed v.dive v.use.f0 v.use.f1 v.drift.f0 v.drift.f1 v.reserve x2.f0.f0 x2.f0.f1 x2.f1.f0 x2.f1.f1 x3 x4 x5 = some true := by
  intro K hK
  have ht : isobathlaw03_GliderStays.j0 (K + 2) x3 x4 x5 true s.nx s.ny s.cell s.slot s.slots s.layers s.most s.shores s.currents v.speed v.dive v.use.f0 v.use.f1 v.drift.f0 v.drift.f1 v.reserve x2.f0.f0 x2.f0.f1 x2.f1.f0 x2.f1.f1 = some true := by
   rw [isobathlaw03_GliderStays.j0, if_pos rfl, works (by omega)]; rfl
  unfold isobathlaw03_GliderStays.f
  rw [ref_val s v x2 x3 (K + 2) (by omega), Option.bind_some]
  by_cases hval : valB s v x2 x3 = true
  case neg => rw [if_neg hval, ht]
  rw [if_pos hval]
  by_cases h4 : (x4.length : Int) > 6
  ·rw [if_pos h4, ht]
  rw [if_neg h4]
  by_cases h6 : (x5.length : Int) > 6
  ·rw [decide_eq_true h6, ht]
  rw [decide_eq_false h6, isobathlaw03_GliderStays.j0, if_neg (by decide)]
  unfold valB at hval
  simp only [Bool.and_eq_true, Bool.not_eq_true', decide_eq_false_iff_not, decide_eq_true_eq] at hval
  obtain ⟨⟨⟨⟨⟨⟨v1, v2⟩, v3⟩, v4⟩, v5⟩, v6⟩, v7⟩ := hval
  have hse : seaE s = 0 := by unfold seaE; rw [if_pos v3]
  have hve : vehE v = 0 := by unfold vehE; rw [if_pos v4]
  have htr : tripE s v = 0 := by unfold tripE; rw [if_neg (fun q => q hse)]; exact hve
  have hbo : boxE x2 = 0 := by unfold boxE; rw [if_pos v5]
  have hpl : placeE x2 x3 = 0 := by unfold placeE; rw [if_neg (fun q => q hbo), if_pos (btwB_iff.2 ⟨v6, v7⟩)]
  have hbg : beginE s v x2 x3 = 0 := by
   have : beginE s v x2 x3 = if tripE s v ≠ 0 then tripE s v else placeE x2 x3 := rfl
   rw [this, if_neg (fun q => q htr)]
   exact hpl
  obtain ⟨hbx, _, _⟩ := place_ok hpl
  obtain ⟨hSV, hVN⟩ := tripE_ok htr
  have hcr : glider_Reach.f s.nx s.ny s.cell s.slot s.slots s.layers s.most s.shores s.currents v.speed v.dive v.use.f0 v.use.f1 v.drift.f0 v.drift.f1 v.reserve x2.f0.f0 x2.f0.f1 x2.f1.f0 x2.f1.f1 x3 (x5.length : Int) = some (ReachX s v x2 x3 (x5.length : Int)) := rfl
  have hRX : ReachX s v x2 x3 (x5.length : Int) = hullsI s v x5.length x2 x3 [] := by
   unfold ReachX
   rw [if_neg (fun q => q hbg), if_neg (by omega), Int.toNat_natCast]
  rw [hcr, hRX, Option.bind_some]
  have hch : (hullsI s v x5.length x2 x3 []).2 = 0 → (hullsI s v x5.length x2 x3 []).1.length = x5.length ∧ Chain s v x2 x3 (hullsI s v x5.length x2 x3 []).1 ∧ ∀ b ∈ (hullsI s v x5.length x2 x3 []).1, Sm b := fun h => by
   obtain ⟨Bs, e, hl, hc, hb⟩ := hull_chain hSV hVN x5.length x2 x3 [] hbx h
   rw [List.nil_append] at e
   rw [e]
   exact ⟨hl, hc, hb⟩
  generalize hullsI s v x5.length x2 x3 [] = H at *
  -- the run
  have hgo : isobathlaw03_GliderStays.j1 (K + 1) x3 x4 x5 H.1 H.2 false s.nx s.ny s.cell s.slot s.slots s.layers s.most s.shores s.currents v.speed v.dive v.use.f0 v.use.f1 v.drift.f0 v.drift.f1 v.reserve x2.f0.f0 x2.f0.f1 x2.f1.f0 x2.f1.f1 = some true := by
   have hcp : glider_Run.f s.nx s.ny s.cell s.slot s.slots s.layers s.most s.shores s.currents v.speed v.dive v.use.f0 v.use.f1 v.drift.f0 v.drift.f1 v.reserve x2.f0.f0 x2.f0.f1 x2.f1.f0 x2.f1.f1 x3 x5 = some (RunX s v x2 x3 x5) := rfl
   rw [isobathlaw03_GliderStays.j1, if_neg (by decide), hcp, Option.bind_some]
   have hRun : RunX s v x2 x3 x5 = if crsE x5 s.layers ≠ 0 then ([], 0, crsE x5 s.layers) else ranI s v x5 x2 x3 0 [] := by unfold RunX; rw [if_neg (fun q => q hbg)]
   by_cases hc0 : crsE x5 s.layers = 0
   case neg =>
    rw [if_pos hc0] at hRun
    rw [hRun, if_neg (show ¬(crsE x5 s.layers = 0) from hc0), works (by omega)]; rfl
   rw [if_neg (fun q => q hc0)] at hRun
   rw [hRun]
   obtain ⟨_, hall⟩ := crsE_ok hc0
   by_cases hr0 : (ranI s v x5 x2 x3 0 []).2.2 = 0
   case neg => rw [if_neg hr0, works (by omega)]; rfl
   obtain ⟨_, q2, _⟩ := ran_out s v _ _ _ _ _ hr0
   have hrc := fun Bs hc => ran_chain hSV hVN x5 Bs x2 x2 x3 0 [] hall hbx (SubB.rfl' _) hc hr0
   rw [List.length_nil, Nat.zero_add] at q2
   simp only [List.length_nil, Nat.zero_add] at hrc
   rw [if_pos hr0, if_pos (show ((ranI s v x5 x2 x3 0 []).1.length : Int) = (x5.length : Int) by rw [q2])]
   refine loop0 s v x2 x3 x4 (ranI s v x5 x2 x3 0 []).1 H.1 H.2 (by omega) (by omega) (fun he => ?_) (fun hz => ?_) (ranI s v x5 x2 x3 0 []).1.length 0 K (Nat.zero_add _) (by omega)
   ·obtain ⟨hl, hc, _⟩ := hch he
    exact ⟨by rw [hl, q2], hrc H.1 hc⟩
   ·unfold CkX at hz
    rw [if_neg (fun q => q hbg)] at hz
    by_cases hbe : boxesE x4 = 0
    ·rw [if_neg (fun q => q hbe)] at hz
     exact hrc x4 (ck_chain x4 x2 x3 (boxesE_ok hbe).2 hz)
    ·rw [if_pos hbe] at hz
     exact absurd hz hbe
  by_cases he : H.2 = 0
  case neg => rw [if_neg he, hgo]
  obtain ⟨hl, hc, hsm⟩ := hch he
  have hcp : glider_CheckReach.f s.nx s.ny s.cell s.slot s.slots s.layers s.most s.shores s.currents v.speed v.dive v.use.f0 v.use.f1 v.drift.f0 v.drift.f1 v.reserve x2.f0.f0 x2.f0.f1 x2.f1.f0 x2.f1.f1 x3 H.1 = some (CkX s v x2 x3 H.1) := rfl
  have hck : CkX s v x2 x3 H.1 = 0 := by
   unfold CkX
   have hbe : boxesE H.1 = 0 := by
    unfold boxesE
    rw [if_neg (by omega)]
    have : H.1.any (fun x => !boxB x) = false := List.any_eq_false.2 (fun b hb => by rw [(hsm b hb).boxB]; decide)
    rw [this]; rfl
   rw [if_neg (fun q => q hbg), if_neg (fun q => q hbe)]
   exact chain_ck hSV hVN _ _ _ hbx hc hsm
  rw [if_pos he, if_pos (show (H.1.length : Int) = (x5.length : Int) by rw [hl]), hcp, hck, Option.bind_some]
  exact hgo
 exact ⟨4000 + 2, main 4000 (Nat.le_refl _)⟩
end Go.Proofs.Ytmhaiihjfgfaoaa.Pure
end
