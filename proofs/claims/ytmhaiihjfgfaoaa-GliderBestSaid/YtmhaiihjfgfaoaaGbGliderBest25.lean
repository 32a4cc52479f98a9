/- Part 25 of the proof of GliderBest: what the functions compute. No condition. -/
import Derived.SizedLaws
import Derived.ChangeSlices
import Derived.Deep.Slices
import Derived.ChangeArms
import Derived.DataReads
import Derived.WideShapes
import Derived.Test.YtmhaiihjfgfaoaaGbGliderBest3
import Derived.Test.YtmhaiihjfgfaoaaGbGliderBest15
import Derived.Test.YtmhaiihjfgfaoaaGbGliderBest20
import Derived.Test.YtmhaiihjfgfaoaaGbGliderBest23
import Derived.Test.YtmhaiihjfgfaoaaGbGliderBest17
import Derived.Test.YtmhaiihjfgfaoaaGbGliderBest6
import Derived.Test.YtmhaiihjfgfaoaaGbGliderBest24
section
-- PRINTED BY print.sh 35421559b90ae4d0a3588c463048766b98c2df88dd9212a6774a882060cdf62d: not written by this session
-- PRINTED WORDS (module Derived/Print/Sized.lean): go-gate-2's, for the rows of laws over slices: an AI agent of Go's test side, Tue Nov 17 2026; no person has read it. Lean checks it.
namespace Go.Proofs.YtmhaiihjfgfaoaaW.PrintWords
open Go.ChangeShapes Go.WideShapes
end Go.Proofs.YtmhaiihjfgfaoaaW.PrintWords
end
section
/- What is read of an argument of a law: a datum of a type reads as a value of its kind; its whole numbers are of their kind, and its slices are within the reach. No condition. -/
namespace Go.Proofs.YtmhaiihjfgfaoaaW.Opens
open Go.RowKit Go.Proofs.YtmhaiihjfgfaoaaW.PrintWords Go.Deep Go.ChangeShapes Go.WideShapes
set_option linter.unusedVariables false
section
variable {H : Type} {enc : TypeId × Value → H} {P : Program}

/-- A datum of type t reads as a value of the kind K of which G holds. -/
def Opens {α : Type} (enc : TypeId × Value → H) (P : Program) (t : TypeId) (K : Kd α) (G : α → Prop) : Prop :=
 ∀ (w : World) (fuel : Nat) (cs : List Value) (x : DataW H × List MemPlace), DataW.trod enc P w 0 (fun _ => true) true fuel t cs = some x → (DataW.weights P t x.1).all (· ≤ reachBytes) = true → ∃ y, K.K w y cs ∧ G y

theorem Opens.int {t : TypeId} {k : IntKind} (hu : P.underlying t = some (.int k)) : Opens enc P t (Kd.int k) (fun n => (Lit.int k n).wf = true) := by
 intro w fuel cs x h _
 cases fuel with
 | zero => simp [DataW.trod] at h
 | succ n =>
  unfold DataW.trod at h
  rw [hu] at h
  split at h <;> simp_all
  obtain ⟨⟨rfl, hw⟩, _⟩ := h
  rename_i n _ _
  exact ⟨_, rfl, hw⟩
theorem Opens.bool {t : TypeId} (hu : P.underlying t = some .bool) : Opens enc P t Kd.bool (fun _ => True) := by
 intro w fuel cs x h _
 cases fuel with
 | zero => simp [DataW.trod] at h
 | succ n =>
  unfold DataW.trod at h
  rw [hu] at h
  split at h <;> simp_all
  rename_i b _
  cases b
  ·exact .inl rfl
  ·exact .inr rfl

/-- The fields from offset off on. -/
def OpensFs {α : Type} (enc : TypeId × Value → H) (P : Program) (off : Nat) (fs : List Field) (K : Kd α) (G : α → Prop) : Prop :=
 ∀ (w : World) (fuel : Nat) (cs : List Value) (xs : List (DataW H × List MemPlace)), cs.length = off + K.sz → xs.length = fs.length →
  (∀ (i : Nat) (f : Field), fs[i]? = some f → DataW.trod enc P w 0 (fun _ => true) true fuel f.type ((cs.drop f.offset).take (P.cellsOf f.type)) = xs[i]?) →
  (DataW.weightsEach P (fs.map (·.type)) (xs.map (·.1))).all (· ≤ reachBytes) = true → ∃ y, K.K w y (cs.drop off) ∧ G y

theorem OpensFs.one {α : Type} {off : Nat} {f : Field} {K : Kd α} {G : α → Prop} (hoff : f.offset = off) (hsz : P.cellsOf f.type = K.sz) (h : Opens enc P f.type K G) : OpensFs enc P off [f] K G := by
 intro w fuel cs xs hl hx hi hw
 obtain ⟨x, rfl⟩ : ∃ x, xs = [x] := by
  match xs, hx with
  | [x], _ => exact ⟨x, rfl⟩
 have h1 := hi 0 f rfl
 rw [hoff, hsz, List.take_of_length_le (by simp; omega)] at h1
 exact h w fuel _ x h1 (by simpa [DataW.weightsEach] using hw)
theorem OpensFs.cons {α β : Type} {off : Nat} {f : Field} {fs : List Field} {K : Kd α} {G : α → Prop} {K' : Kd β} {G' : β → Prop} (hoff : f.offset = off) (hsz : P.cellsOf f.type = K.sz) (h : Opens enc P f.type K G) (h' : OpensFs enc P (off + K.sz) fs K' G') :
  OpensFs enc P off (f :: fs) (Kd.pair K K') (fun y => G y.1 ∧ G' y.2) := by
 intro w fuel cs xs hl hx hi hw
 obtain ⟨x, xs', rfl⟩ : ∃ x xs', xs = x :: xs' := by
  match xs, hx with
  | x :: xs', _ => exact ⟨x, xs', rfl⟩
 have hl2 : cs.length = off + (K.sz + K'.sz) := hl
 have h1 := hi 0 f rfl
 rw [hoff, hsz] at h1
 simp only [List.map_cons, DataW.weightsEach, List.all_append, Bool.and_eq_true] at hw
 obtain ⟨y, hy, gy⟩ := h w fuel _ x h1 hw.1
 obtain ⟨y', hy', gy'⟩ := h' w fuel cs xs' (by omega) (by simpa using hx) (fun i g hg => by simpa using hi (i + 1) g (by simpa using hg)) hw.2
 refine ⟨(y, y'), ⟨_, _, ?_, hy, hy'⟩, gy, gy'⟩
 rw [← List.drop_drop, List.take_append_drop]
theorem Opens.struct {α β : Type} {t : TypeId} {fs : Array Field} {K : Kd α} {G : α → Prop} {f : β → α} (g : α → β) (hu : P.underlying t = some (.struct fs)) (hsz : P.cellsOf t = K.sz) (hg : ∀ y, f (g y) = y) (h : OpensFs enc P 0 fs.toList K G) :
  Opens enc P t (Kd.iso K f) (fun z => G (f z)) := by
 intro w fuel cs x hx hw
 obtain ⟨xs, n, rfl, rfl, hl, hxl, hi⟩ := DataW.trod_struct hu hx
 obtain ⟨y, hy, gy⟩ := h w n cs xs (by omega) (by simpa using hxl) (fun i f hf => hi i f (by simpa using hf)) (by simpa [DataW.weights, hu] using hw)
 refine ⟨g y, ?_, by show G (f (g y)); rw [hg]; exact gy⟩
 show K.K w (f (g y)) cs
 rw [hg]
 simpa using hy

theorem list_of_lt {α : Type} {Q : Nat → α → Prop} : ∀ (n : Nat), (∀ i, i < n → ∃ y, Q i y) → ∃ ys : List α, ys.length = n ∧ ∀ i y, ys[i]? = some y → Q i y
 | 0, _ => ⟨[], rfl, fun i y h => by simp at h⟩
 | n + 1, h => by
  obtain ⟨ys, hl, hq⟩ := list_of_lt n (fun i hi => h i (by omega))
  obtain ⟨y, hy⟩ := h n (by omega)
  refine ⟨ys ++ [y], by simp [hl], fun i z hz => ?_⟩
  rw [List.getElem?_append] at hz
  split at hz
  ·exact hq i z hz
  ·rename_i hi
   obtain rfl : i = n := by
    have := (List.getElem?_eq_some_iff.1 hz).1
    simp at this
    omega
   simp [hl] at hz
   exact hz ▸ hy
theorem weightsAll_mem {e : TypeId} : ∀ {ds : List (DataW H)} {d : DataW H}, (DataW.weightsAll P e ds).all (· ≤ reachBytes) = true → d ∈ ds → (DataW.weights P e d).all (· ≤ reachBytes) = true
 | [], _, _, h => by cases h
 | a :: r, d, hw, h => by
  simp only [DataW.weightsAll, List.all_append, Bool.and_eq_true] at hw
  rcases List.mem_cons.1 h with rfl | h
  ·exact hw.1
  ·exact weightsAll_mem hw.2 h
theorem Opens.slice {α : Type} {t e : TypeId} (e' : Nat) {K : Kd α} {G : α → Prop} (hu : P.underlying t = some (.slice e)) (hsz : P.cellsOf e = K.sz) (h : Opens enc P e K G) :
  Opens enc P t (Kd.slice e' K) (fun ys => (∀ y ∈ ys, G y) ∧ ys.length * P.bytesOf e ≤ reachBytes) := by
 intro w fuel cs x hx hw
 rcases open_slice hu hx with ⟨rfl, rfl⟩ | ⟨a, len, cap, m, n, D, Pl, rfl, hb, hl, hm, hmm, rfl, hi⟩
 ·exact ⟨[], ⟨none, 0, rfl, by simp, ⟨rfl, by simp, fun h => by simp at h⟩⟩, by simp, by simp⟩
 ·have hmc : m = cap := by simpa using hmm
  subst hmc
  simp only [DataW.weights, hu, List.all_cons, List.all_append, Bool.and_eq_true, decide_eq_true_eq, List.length_map, List.length_range] at hw
  obtain ⟨ys, hyl, hys⟩ := list_of_lt (Q := fun i y => (∃ cs', w.cells? 0 (a.add (i * P.cellsOf e)) (P.cellsOf e) = some cs' ∧ K.K w y cs') ∧ G y) len (fun i hil => by
   obtain ⟨cs', hc, ht⟩ := hi i (by omega)
   obtain ⟨y, hy, gy⟩ := h w n cs' _ ht (weightsAll_mem hw.2.1 (List.mem_map.2 ⟨i, List.mem_range.2 hil, rfl⟩))
   exact ⟨y, ⟨cs', hc, hy⟩, gy⟩)
  refine ⟨ys, ⟨some a, m, by rw [hyl], by omega, hyl.trans hyl.symm |>.trans (by rfl), ?_, fun _ => ⟨a, rfl, fun j p hj => ?_⟩⟩, fun y hy => ?_, ?_⟩
  ·unfold maxLen at hm
   omega
  ·obtain ⟨⟨cs', hc, hk⟩, _⟩ := hys j p hj
   obtain ⟨_, hcl, hcell⟩ := World.cells?_some hc
   refine ⟨cs', by rw [hcl, hsz], hk, fun i u hu' => ?_⟩
   have hlt := (List.getElem?_eq_some_iff.1 hu').1
   rw [← Go.Deep.add_add, ← hsz, hcell i (by omega), hu']
  ·obtain ⟨j, hj⟩ := List.getElem?_of_mem hy
   exact (hys j y hj).2
  ·refine Nat.le_trans (Nat.mul_le_mul_right _ (show ys.length ≤ len + (m - len) by omega)) hw.1
/-- An argument of a law. -/
theorem Opens.arg {α : Type} {t : TypeId} {K : Kd α} {G : α → Prop} (h : Opens enc P t K G) {w : World} {v : Value} {d : DataW H} {p : List MemPlace} (ht : DataW.Trod enc P w 0 (fun _ => true) true t v d p)
  {ts : List TypeId} {ds : List (DataW H)} (hsz : (DataW.weightsEach P ts ds).all (· ≤ reachBytes) = true) {j : Nat} (hj : ts[j]? = some t) (hd : ds[j]? = some d) : ∃ y, K.K w y v.cells.toList ∧ G y := by
 obtain ⟨fuel, hf⟩ := ht
 exact h w fuel _ _ hf (List.all_eq_true.2 fun n hn => List.all_eq_true.1 hsz _ (DataW.weights_mem_each hj hd n hn))
end
end Go.Proofs.YtmhaiihjfgfaoaaW.Opens
end
section
/- What is known of the arguments of the laws. -/
namespace Go.Proofs.Ytmhaiihjfgfaoaa.Good
open Go.RowKit Go.Proofs.YtmhaiihjfgfaoaaW.PrintWords Go.Proofs.YtmhaiihjfgfaoaaW.PrintLast Go.Proofs.YtmhaiihjfgfaoaaW.PrintMore Go.Proofs.Ytmhaiihjfgfaoaa.Pr Go.Proofs.YtmhaiihjfgfaoaaW.Opens
set_option linter.unusedVariables false
def W27 (x : S27) : Prop := (Lit.int .i64 x.f0).wf = true ∧ (Lit.int .i64 x.f1).wf = true
theorem opens27 {H : Type} {enc : TypeId × Value → H} : Opens enc Try.prog 27 k27 W27 := Opens.struct (fun p => ⟨p.1, p.2⟩) Try.underlying27 zq5 (fun _ => rfl) (OpensFs.cons rfl zq5 (Opens.int Try.underlying2) (OpensFs.one rfl zq5 (Opens.int Try.underlying2)))
def W40 (x : S40) : Prop := W27 x.f0 ∧ W27 x.f1
theorem opens40 {H : Type} {enc : TypeId × Value → H} : Opens enc Try.prog 40 k40 W40 := Opens.struct (fun p => ⟨p.1, p.2⟩) Try.underlying40 zq5 (fun _ => rfl) (OpensFs.cons rfl zq5 opens27 (OpensFs.one rfl zq5 opens27))
def W25 (x : S25) : Prop := (Lit.int .i64 x.f0).wf = true ∧ (Lit.int .i64 x.f1).wf = true ∧ (Lit.int .i64 x.f2).wf = true ∧ (Lit.int .i64 x.f3).wf = true ∧ (Lit.int .i64 x.f4).wf = true ∧ (Lit.int .i64 x.f5).wf = true ∧ (Lit.int .i64 x.f6).wf = true ∧ ((∀ y ∈ x.f7, True) ∧ x.f7.length * Try.prog.bytesOf 4 ≤ reachBytes) ∧ ((∀ y ∈ x.f8, W40 y) ∧ x.f8.length * Try.prog.bytesOf 40 ≤ reachBytes)
theorem opens25 {H : Type} {enc : TypeId × Value → H} : Opens enc Try.prog 25 k25 W25 := Opens.struct (fun p => ⟨p.1, p.2.1, p.2.2.1, p.2.2.2.1, p.2.2.2.2.1, p.2.2.2.2.2.1, p.2.2.2.2.2.2.1, p.2.2.2.2.2.2.2.1, p.2.2.2.2.2.2.2.2⟩) Try.underlying25 zq5 (fun _ => rfl) (OpensFs.cons rfl zq5 (Opens.int Try.underlying3) (OpensFs.cons rfl zq5 (Opens.int Try.underlying3) (OpensFs.cons rfl zq5 (Opens.int Try.underlying2) (OpensFs.cons rfl zq5 (Opens.int Try.underlying2) (OpensFs.cons rfl zq5 (Opens.int Try.underlying3) (OpensFs.cons rfl zq5 (Opens.int Try.underlying3) (OpensFs.cons rfl zq5 (Opens.int Try.underlying2) (OpensFs.cons rfl zq5 (Opens.slice 4 Try.underlying22 zq5 (Opens.bool Try.underlying4)) (OpensFs.one rfl zq5 (Opens.slice 40 Try.underlying23 zq5 opens40))))))))))
def W29 (x : S29) : Prop := (Lit.int .i64 x.f0).wf = true ∧ (Lit.int .i64 x.f1).wf = true ∧ W27 x.f2 ∧ W27 x.f3 ∧ (Lit.int .i64 x.f4).wf = true
theorem opens29 {H : Type} {enc : TypeId × Value → H} : Opens enc Try.prog 29 k29 W29 := Opens.struct (fun p => ⟨p.1, p.2.1, p.2.2.1, p.2.2.2.1, p.2.2.2.2⟩) Try.underlying29 zq5 (fun _ => rfl) (OpensFs.cons rfl zq5 (Opens.int Try.underlying2) (OpensFs.cons rfl zq5 (Opens.int Try.underlying2) (OpensFs.cons rfl zq5 opens27 (OpensFs.cons rfl zq5 opens27 (OpensFs.one rfl zq5 (Opens.int Try.underlying2))))))
def W31 (x : S31) : Prop := W27 x.f0 ∧ W27 x.f1
theorem opens31 {H : Type} {enc : TypeId × Value → H} : Opens enc Try.prog 31 k31 W31 := Opens.struct (fun p => ⟨p.1, p.2⟩) Try.underlying31 zq5 (fun _ => rfl) (OpensFs.cons rfl zq5 opens27 (OpensFs.one rfl zq5 opens27))
def W33 (x : S33) : Prop := (Lit.int .i64 x.f0).wf = true ∧ (Lit.int .i64 x.f1).wf = true
theorem opens33 {H : Type} {enc : TypeId × Value → H} : Opens enc Try.prog 33 k33 W33 := Opens.struct (fun p => ⟨p.1, p.2⟩) Try.underlying33 zq5 (fun _ => rfl) (OpensFs.cons rfl zq5 (Opens.int Try.underlying3) (OpensFs.one rfl zq5 (Opens.int Try.underlying3)))
def W81 (x : S81) : Prop := W31 x.f0 ∧ (Lit.int .i64 x.f1).wf = true ∧ (Lit.int .i64 x.f2).wf = true
theorem opens81 {H : Type} {enc : TypeId × Value → H} : Opens enc Try.prog 81 k81 W81 := Opens.struct (fun p => ⟨p.1, p.2.1, p.2.2⟩) Try.underlying81 zq5 (fun _ => rfl) (OpensFs.cons rfl zq5 opens31 (OpensFs.cons rfl zq5 (Opens.int Try.underlying2) (OpensFs.one rfl zq5 (Opens.int Try.underlying2))))
end Go.Proofs.Ytmhaiihjfgfaoaa.Good
end
section
/- Hulls of boxes, the cells that a box touches: what grows with what. Plain law, no program. -/
namespace Go.Proofs.Ytmhaiihjfgfaoaa.Gl
open Go.RowKit Go.Proofs.YtmhaiihjfgfaoaaW.PrintWords Go.Proofs.YtmhaiihjfgfaoaaW.PrintLast Go.Proofs.YtmhaiihjfgfaoaaW.PrintMore Go.Proofs.Ytmhaiihjfgfaoaa.Pr
set_option linter.unusedVariables false
end Go.Proofs.Ytmhaiihjfgfaoaa.Gl
end
section
/- Runs end their dives in the hulls, and in boxes that are a proof. -/
namespace Go.Proofs.Ytmhaiihjfgfaoaa.Gl
open Go.RowKit Go.Proofs.YtmhaiihjfgfaoaaW.PrintWords Go.Proofs.YtmhaiihjfgfaoaaW.PrintLast Go.Proofs.Ytmhaiihjfgfaoaa.Pr
theorem mem_crs {s : Sea} {c : S33} (hl : 1 ≤ s.layers) (h0 : 0 ≤ c.f0) (h1 : c.f0 ≤ 8) (h2 : 0 ≤ c.f1) (h3 : c.f1 < s.layers) : c ∈ crsL s := by
 unfold crsL allC rowC
 rw [List.mem_flatMap]
 refine ⟨c.f0.toNat, List.mem_range.2 (by omega), ?_⟩
 rw [List.mem_map]
 refine ⟨c.f1.toNat, List.mem_range.2 (by omega), ?_⟩
 obtain ⟨a, b⟩ := c
 dsimp only at *
 rw [Int.toNat_of_nonneg h0, Int.toNat_of_nonneg h2]
end Go.Proofs.Ytmhaiihjfgfaoaa.Gl
end
section
/- What Best returns is good, and the least; what a plan costs. -/
namespace Go.Proofs.Ytmhaiihjfgfaoaa.Gl
open Go.RowKit Go.Proofs.YtmhaiihjfgfaoaaW.PrintWords Go.Proofs.YtmhaiihjfgfaoaaW.PrintLast Go.Proofs.Ytmhaiihjfgfaoaa.Pr
theorem crsL_mem {s : Sea} {c : S33} (h : c ∈ crsL s) : (0 ≤ c.f0 ∧ c.f0 ≤ 8) ∧ 0 ≤ c.f1 ∧ c.f1 < s.layers := by
 unfold crsL allC rowC at h
 obtain ⟨r, hr, h⟩ := List.mem_flatMap.1 h
 obtain ⟨j, hj, rfl⟩ := List.mem_map.1 h
 have h1 := List.mem_range.1 hr
 have h2 := List.mem_range.1 hj
 dsimp only
 omega
theorem crsE_of {s : Sea} {l : List S33} (hl : l.length ≤ 64) (h : ∀ c ∈ l, c ∈ crsL s) : crsE l s.layers = 0 := by
 unfold crsE
 have ha : l.all (crsB s.layers) = true := List.all_eq_true.2 (fun c hc => by
  have := crsL_mem (h c hc)
  unfold crsB
  rw [btwB_iff.2 ⟨this.1.1, this.1.2⟩, decide_eq_true this.2.1, decide_eq_true this.2.2, Bool.or_true]
  rfl)
 rw [if_neg (by omega), ha]
 rfl
theorem crsE_mem {s : Sea} {l : List S33} (hS : SeaN s) (h : crsE l s.layers = 0) : ∀ c ∈ l, c ∈ crsL s := by
 intro c hc
 obtain ⟨_, ha⟩ := crsE_ok h
 have h1 := List.all_eq_true.1 ha c hc
 unfold crsB at h1
 have hla := hS.layers
 simp only [Bool.and_eq_true, btwB_iff, Bool.or_eq_true, decide_eq_true_eq] at h1
 exact mem_crs hla.1 h1.1.1.1 h1.1.1.2 h1.1.2 (by omega)
/-- A plan that CheckPlan accepts. -/
theorem plan_parts {s : Sea} {v : Veh} {x : S31} {t : Int} {e : S27} {l : List S33} {p : S81} (h : PlanE s v x t e l p = 0) : beginE s v x t = 0 ∧ bndB e.f0 e.f1 0 1073741824 = true ∧ crsE l s.layers = 0 ∧ pickB p = true := by
 unfold PlanE at h
 by_cases h1 : beginE s v x t = 0
 case neg => rw [if_pos h1] at h; exact absurd h h1
 rw [if_neg (fun q => q h1)] at h
 cases h2 : bndB e.f0 e.f1 0 1073741824 with
 | false => rw [if_pos h2] at h; cases h
 | true =>
  rw [if_neg (by rw [h2]; decide)] at h
  by_cases h3 : crsE l s.layers = 0
  case neg => rw [if_pos h3] at h; exact absurd h h3
  rw [if_neg (fun q => q h3)] at h
  cases h4 : pickB p with
  | false => rw [if_pos h4] at h; cases h
  | true => exact ⟨h1, rfl, h3, rfl⟩
theorem BestE_ok {s : Sea} {v : Veh} {x : S31} {t : Int} {e : S27} {p : S81} {d : Int} (h : BestE s v x t e p d = 0) : beginE s v x t = 0 ∧ bndB e.f0 e.f1 0 1073741824 = true ∧ pickB p = true ∧ 1 ≤ d ∧ d ≤ 3 ∧ 0 ≤ (bestV s v p x t e d.toNat).2 := by
 unfold BestE at h
 by_cases h1 : beginE s v x t = 0
 case neg => rw [if_pos h1] at h; exact absurd h h1
 rw [if_neg (fun q => q h1)] at h
 cases h2 : bndB e.f0 e.f1 0 1073741824 with
 | false => rw [if_pos h2] at h; cases h
 | true =>
  rw [if_neg (by rw [h2]; decide)] at h
  cases h4 : pickB p with
  | false => rw [if_pos h4] at h; cases h
  | true =>
   rw [if_neg (by rw [h4]; decide)] at h
   by_cases h5 : d < 1
   ·rw [if_pos h5] at h; cases h
   rw [if_neg h5] at h
   by_cases h6 : 3 < d
   ·rw [if_pos h6] at h; cases h
   rw [if_neg h6] at h
   by_cases h7 : (bestV s v p x t e d.toNat).2 < 0
   ·rw [if_pos h7] at h; cases h
   exact ⟨h1, rfl, rfl, by omega, by omega, by omega⟩
theorem begin_veh {s : Sea} {v : Veh} {x : S31} {t : Int} (h : beginE s v x t = 0) : vehB v = true ∧ SeaN s := by
 have hb : (if tripE s v ≠ 0 then tripE s v else placeE x t) = 0 := h
 obtain ⟨h1, _⟩ := ite_ne_zero hb
 exact ⟨tripE_veh h1, (tripE_ok h1).1.n⟩
/-- What Best returns. -/
theorem Best_good {s : Sea} {v : Veh} {x : S31} {t : Int} {e : S27} {p : S81} {d : Int} (h : BestE s v x t e p d = 0) :
  ∃ l, BestX s v x t e p d = (l, costF v l) ∧ 1 ≤ l.length ∧ (l.length : Int) ≤ d ∧ l.length ≤ 3 ∧ (∀ c ∈ l, c ∈ crsL s) ∧ PlanE s v x t e l p = 0 := by
 obtain ⟨h1, h2, h3, h4, h5, h6⟩ := BestE_ok h
 obtain ⟨hv, hS⟩ := begin_veh h1
 obtain ⟨i1, _⟩ := best_spec (s := s) (p := p) hv x t e d.toNat
 rcases i1 with i1 | ⟨l, k1, k2, k3, k4, k5⟩
 ·rw [i1] at h6
  exact absurd h6 (by decide)
 ·refine ⟨l, by unfold BestX; rw [h, if_pos rfl, k5], k1, by omega, by omega, k3, (plan_good h1 h2 (crsE_of (by omega) k3) h3).2 k4⟩
/-- No good plan costs less. -/
theorem Best_least {s : Sea} {v : Veh} {x : S31} {t : Int} {e : S27} {p : S81} {d : Int} {l : List S33} (h1 : 1 ≤ l.length) (h2 : (l.length : Int) ≤ d) (h : PlanE s v x t e l p = 0) : BestE s v x t e p d ≠ 15 ∧ (BestE s v x t e p d = 0 → (BestX s v x t e p d).2 ≤ costF v l) := by
 obtain ⟨p1, p2, p3, p4⟩ := plan_parts h
 obtain ⟨hv, hS⟩ := begin_veh p1
 obtain ⟨_, i2⟩ := best_spec (s := s) (p := p) hv x t e d.toNat
 have hg := (plan_good p1 p2 p3 p4).1 h
 have hb := i2 l h1 (by omega) (crsE_mem hS p3) hg
 refine ⟨fun hE => ?_, fun hE => ?_⟩
 ·unfold BestE at hE
  rw [if_neg (fun q => q p1), if_neg (by rw [p2]; decide), if_neg (by rw [p4]; decide), if_neg (by omega)] at hE
  by_cases h6 : 3 < d
  ·rw [if_pos h6] at hE; cases hE
  ·rw [if_neg h6, if_neg (by omega)] at hE; cases hE
 ·unfold BestX
  rw [hE, if_pos rfl]
  exact hb.2
theorem ref_cost {v : Veh} (hv : vehB v = true) (l : List S33) (hl : l.length ≤ 64) : ∀ (m i K : Nat) (acc : Int), i + m = l.length → m + 1 ≤ K → (0 ≤ acc ∧ acc ≤ (i : Int) * 1073741824) →
  isobathref03_Cost.l0 K l acc (i : Int) v.speed v.dive v.use.f0 v.use.f1 v.drift.f0 v.drift.f1 v.reserve = some (acc + costF v (l.drop i))
 | 0, i, K + 1, acc, h, hk, ha => by
  rw [isobathref03_Cost.l0, if_neg (by omega), List.drop_eq_nil_of_le (by omega)]
  unfold costF
  rw [Int.add_zero]
 | m + 1, i, K + 1, acc, h, hk, ha => by
  have hi : i < l.length := by omega
  have e : rd_T33 l (i : Int) = l[i] := by
   unfold rd_T33
   simp [hi]
  have hus := vehB_use hv l[i]
  have htk : isobathref03_Takes.f v.speed v.dive v.use.f0 v.use.f1 v.drift.f0 v.drift.f1 v.reserve l[i].f0 l[i].f1 = some ((takeI v l[i]).f0, (takeI v l[i]).f1) := by
   unfold isobathref03_Takes.f takeI
   split <;> rfl
  have hc : ((i + 1 : Nat) : Int) = (i : Int) + 1 := by omega
  rw [isobathref03_Cost.l0, if_pos (by omega), if_pos (by omega), e, htk, Option.bind_some]
  dsimp only
  rw [w64_in (x := acc + (takeI v l[i]).f1) (by omega), w64_in (x := (i : Int) + 1) (by omega), ← hc, ref_cost hv l hl m (i + 1) K _ (by omega) (by omega) (by omega), List.drop_eq_getElem_cons hi]
  rw [show costF v (l[i] :: l.drop (i + 1)) = (takeI v l[i]).f1 + costF v (l.drop (i + 1)) from rfl, Int.add_assoc]
theorem ref_Cost {v : Veh} (hv : vehB v = true) (l : List S33) (hl : l.length ≤ 64) (K : Nat) (hk : 70 ≤ K) : isobathref03_Cost.f K v.speed v.dive v.use.f0 v.use.f1 v.drift.f0 v.drift.f1 v.reserve l = some (costF v l) := by
 have h := ref_cost hv l hl l.length 0 K 0 (Nat.zero_add _) (by omega) (by omega)
 rw [List.drop_zero, Int.zero_add] at h
 exact h
end Go.Proofs.Ytmhaiihjfgfaoaa.Gl
end
section
/- What the document's answer says of seas, vehicles and boxes: the same as the program. -/
namespace Go.Proofs.Ytmhaiihjfgfaoaa.Gl
open Go.RowKit Go.Proofs.YtmhaiihjfgfaoaaW.PrintWords Go.Proofs.YtmhaiihjfgfaoaaW.PrintLast Go.Proofs.YtmhaiihjfgfaoaaW.PrintMore Go.Proofs.Ytmhaiihjfgfaoaa.Pr
set_option linter.unusedVariables false
theorem w64_id {x : Int} (h : -9223372036854775808 ≤ x ∧ x < 9223372036854775808) : wrap64 x = x := by unfold wrap64; omega
theorem ref_valid (lo hi : Int) : isobathref01_Valid.f lo hi = some (okS lo hi) := by
 unfold isobathref01_Valid.f isobathref01_Within.f
 rw [show okS lo hi = (decide (lo ≤ hi) && (decide (-1073741824 ≤ lo) && decide (lo ≤ 1073741824)) && (decide (-1073741824 ≤ hi) && decide (hi ≤ 1073741824))) from by
  rw [Bool.eq_iff_iff, okS_iff]; simp only [Bool.and_eq_true, decide_eq_true_eq]; omega]
 by_cases h1 : lo ≤ hi <;> by_cases h2 : -1073741824 ≤ lo <;> by_cases h3 : lo ≤ 1073741824 <;> by_cases h4 : -1073741824 ≤ hi <;> by_cases h5 : hi ≤ 1073741824 <;> simp [h1, h2, h3, h4, h5]
theorem ref_bounded (lo hi a b : Int) : isobathref03_bounded.f lo hi a b = some (bndB lo hi a b) := by
 unfold isobathref03_bounded.f bndB
 rw [ref_valid, Option.bind_some]
 cases okS lo hi with
 | false => rfl
 | true =>
  by_cases h : a ≤ lo <;> simp [h]
theorem ref_within (x lo hi : Int) : isobathref01_Within.f x lo hi = some (btwB x lo hi) := by
 unfold isobathref01_Within.f btwB
 by_cases h : lo ≤ x <;> simp [h]
theorem ref_box (x : S31) : isobathref01_ValidBox.f x.f0.f0 x.f0.f1 x.f1.f0 x.f1.f1 = some (boxB x) := by
 unfold isobathref01_ValidBox.f boxB
 simp only [ref_valid, ref_within, Option.bind_some]
 cases okS x.f0.f0 x.f0.f1 <;> cases okS x.f1.f0 x.f1.f1 <;> cases btwB x.f0.f0 (-268435456) 268435456 <;> cases btwB x.f0.f1 (-268435456) 268435456 <;> cases btwB x.f1.f0 (-268435456) 268435456 <;> cases btwB x.f1.f1 (-268435456) 268435456 <;> rfl
theorem ref_veh (v : Veh) : isobathref03_CheckVehicle.f v.speed v.dive v.use.f0 v.use.f1 v.drift.f0 v.drift.f1 v.reserve = some (vehE v) := by
 unfold isobathref03_CheckVehicle.f vehE vehB btwB
 simp only [ref_bounded, Option.bind_some]
 by_cases h1 : v.speed < 0
 ·rw [if_pos h1, show decide (0 ≤ v.speed) = false from decide_eq_false (by omega)]; rfl
 rw [if_neg h1, show decide (0 ≤ v.speed) = true from decide_eq_true (by omega)]
 by_cases h2 : v.speed > 5000
 ·rw [if_pos h2, show decide (v.speed ≤ 5000) = false from decide_eq_false (by omega)]; rfl
 rw [if_neg h2, show decide (v.speed ≤ 5000) = true from decide_eq_true (by omega)]
 by_cases h3 : v.dive < 1
 ·rw [if_pos h3, show decide (1 ≤ v.dive) = false from decide_eq_false (by omega)]; rfl
 rw [if_neg h3, show decide (1 ≤ v.dive) = true from decide_eq_true (by omega)]
 by_cases h4 : v.dive > 131072
 ·rw [if_pos h4, show decide (v.dive ≤ 131072) = false from decide_eq_false (by omega)]; rfl
 rw [if_neg h4, show decide (v.dive ≤ 131072) = true from decide_eq_true (by omega)]
 cases bndB v.use.f0 v.use.f1 0 1073741824
 ·rfl
 cases bndB v.drift.f0 v.drift.f1 0 1073741824
 ·rfl
 by_cases h5 : v.reserve < 0
 ·rw [if_pos h5, show decide (0 ≤ v.reserve) = false from decide_eq_false (by omega)]; rfl
 rw [if_neg h5, show decide (0 ≤ v.reserve) = true from decide_eq_true (by omega)]
 by_cases h6 : v.reserve > 1073741824
 ·rw [if_pos h6, show decide (v.reserve ≤ 1073741824) = false from decide_eq_false (by omega)]; rfl
 rw [if_neg h6, show decide (v.reserve ≤ 1073741824) = true from decide_eq_true (by omega)]; rfl
theorem sea_loop (s : Sea) (hm : 0 ≤ s.most ∧ s.most ≤ 5000) (hl : s.currents.length ≤ 100000) : ∀ (m i K : Nat), i + m = s.currents.length → m + 1 ≤ K →
  isobathref03_CheckSea.l0 K (i : Int) s.nx s.ny s.cell s.slot s.slots s.layers s.most s.shores s.currents = some (if (s.currents.drop i).any (badC s.most) then 2 else 0)
 | 0, i, K + 1, h, hk => by
  rw [isobathref03_CheckSea.l0, if_neg (by omega), List.drop_eq_nil_of_le (by omega)]; rfl
 | m + 1, i, K + 1, h, hk => by
  have hi : i < s.currents.length := by omega
  rw [isobathref03_CheckSea.l0, if_pos (by omega), if_pos (by omega), w64_id (x := -s.most) (by omega), w64_id (x := (i : Int) + 1) (by omega)]
  have e : rd_T40 s.currents (i : Int) = s.currents[i] := by
   unfold rd_T40
   simp [hi]
  rw [e, ref_bounded, Option.bind_some, ref_bounded, Option.bind_some, List.drop_eq_getElem_cons hi, List.any_cons]
  have ih := sea_loop s hm hl m (i + 1) K (by omega) (by omega)
  rw [show ((i + 1 : Nat) : Int) = (i : Int) + 1 from by omega] at ih
  rw [ih, show badC s.most s.currents[i] = (!bndB s.currents[i].f0.f0 s.currents[i].f0.f1 (-s.most) s.most || !bndB s.currents[i].f1.f0 s.currents[i].f1.f1 (-s.most) s.most) from rfl]
  cases bndB s.currents[i].f0.f0 s.currents[i].f0.f1 (-s.most) s.most
  ·rfl
  cases bndB s.currents[i].f1.f0 s.currents[i].f1.f1 (-s.most) s.most
  ·rfl
  rfl
theorem ref_sea (s : Sea) (K : Nat) (hl : s.currents.length ≤ 100000) (hk : s.currents.length + 3 ≤ K) : isobathref03_CheckSea.f K s.nx s.ny s.cell s.slot s.slots s.layers s.most s.shores s.currents = some (seaE s) := by
 obtain ⟨K, rfl⟩ : ∃ k, K = k + 2 := ⟨K - 2, by omega⟩
 have hj : isobathref03_CheckSea.j0 (K + 2) true s.nx s.ny s.cell s.slot s.slots s.layers s.most s.shores s.currents = some 2 := by rw [isobathref03_CheckSea.j0, if_pos rfl]
 unfold isobathref03_CheckSea.f seaE seaB
 rw [hj]
 unfold btwB
 by_cases h1 : s.nx < 1
 ·rw [if_pos h1, show decide (1 ≤ s.nx) = false from decide_eq_false (by omega)]; rfl
 rw [if_neg h1, show decide (1 ≤ s.nx) = true from decide_eq_true (by omega)]
 by_cases h2 : s.nx > 12
 ·rw [if_pos h2, show decide (s.nx ≤ 12) = false from decide_eq_false (by omega)]; rfl
 rw [if_neg h2, show decide (s.nx ≤ 12) = true from decide_eq_true (by omega)]
 by_cases h3 : s.ny < 1
 ·rw [if_pos h3, show decide (1 ≤ s.ny) = false from decide_eq_false (by omega)]; rfl
 rw [if_neg h3, show decide (1 ≤ s.ny) = true from decide_eq_true (by omega)]
 by_cases h4 : s.ny > 12
 ·rw [if_pos h4, show decide (s.ny ≤ 12) = false from decide_eq_false (by omega)]; rfl
 rw [if_neg h4, show decide (s.ny ≤ 12) = true from decide_eq_true (by omega)]
 by_cases h5 : s.cell < 100
 ·rw [if_pos h5, show decide (100 ≤ s.cell) = false from decide_eq_false (by omega)]; rfl
 rw [if_neg h5, show decide (100 ≤ s.cell) = true from decide_eq_true (by omega)]
 by_cases h6 : s.cell > 65536
 ·rw [if_pos h6, show decide (s.cell ≤ 65536) = false from decide_eq_false (by omega)]; rfl
 rw [if_neg h6, show decide (s.cell ≤ 65536) = true from decide_eq_true (by omega)]
 by_cases h7 : s.slot < 1
 ·rw [if_pos h7, show decide (1 ≤ s.slot) = false from decide_eq_false (by omega)]; rfl
 rw [if_neg h7, show decide (1 ≤ s.slot) = true from decide_eq_true (by omega)]
 by_cases h8 : s.slot > 1048576
 ·rw [if_pos h8, show decide (s.slot ≤ 1048576) = false from decide_eq_false (by omega)]; rfl
 rw [if_neg h8, show decide (s.slot ≤ 1048576) = true from decide_eq_true (by omega)]
 by_cases h9 : s.slots < 1
 ·rw [if_pos h9, show decide (1 ≤ s.slots) = false from decide_eq_false (by omega)]; rfl
 rw [if_neg h9, show decide (1 ≤ s.slots) = true from decide_eq_true (by omega)]
 by_cases h10 : s.slots > 16
 ·rw [if_pos h10, show decide (s.slots ≤ 16) = false from decide_eq_false (by omega)]; rfl
 rw [if_neg h10, show decide (s.slots ≤ 16) = true from decide_eq_true (by omega)]
 by_cases h11 : s.layers < 1
 ·rw [if_pos h11, show decide (1 ≤ s.layers) = false from decide_eq_false (by omega)]; rfl
 rw [if_neg h11, show decide (1 ≤ s.layers) = true from decide_eq_true (by omega)]
 by_cases h12 : s.layers > 3
 ·rw [if_pos h12, show decide (s.layers ≤ 3) = false from decide_eq_false (by omega)]; rfl
 rw [if_neg h12, show decide (s.layers ≤ 3) = true from decide_eq_true (by omega)]
 by_cases h13 : s.most < 0
 ·rw [if_pos h13, show decide (0 ≤ s.most) = false from decide_eq_false (by omega)]; rfl
 rw [if_neg h13, show decide (0 ≤ s.most) = true from decide_eq_true (by omega)]
 by_cases h14 : s.most > 5000
 ·rw [show decide (s.most > 5000) = true from decide_eq_true h14, hj, show decide (s.most ≤ 5000) = false from decide_eq_false (by omega)]; rfl
 rw [show decide (s.most > 5000) = false from decide_eq_false h14, show decide (s.most ≤ 5000) = true from decide_eq_true (by omega)]
 obtain ⟨n0, n1⟩ := mul_in (a := s.nx) (b := s.ny) (m := 12) (n := 12) (by omega) (by omega) (by omega) (by omega)
 obtain ⟨m0, m1⟩ := mul_in (a := s.slots) (b := s.layers) (m := 16) (n := 3) (by omega) (by omega) (by omega) (by omega)
 obtain ⟨q0, q1⟩ := mul_in (a := s.slots * s.layers) (b := s.nx * s.ny) (m := 48) (n := 144) (by omega) (by omega) (by omega) (by omega)
 obtain ⟨p0, p1⟩ := mul_in (a := s.slots * s.layers) (b := s.nx) (m := 48) (n := 12) (by omega) (by omega) (by omega) (by omega)
 have ea : s.layers * s.slots = s.slots * s.layers := Int.mul_comm _ _
 have eb : s.slots * s.layers * s.nx * s.ny = s.slots * s.layers * (s.nx * s.ny) := by rw [Int.mul_assoc]
 rw [isobathref03_CheckSea.j0, if_neg (by decide), w64_id (x := s.nx * s.ny) (by omega)]
 by_cases h15 : (s.shores.length : Int) = s.nx * s.ny
 ·rw [if_pos h15, decide_eq_true h15, isobathref03_CheckSea.j1, w64_id (x := s.slots * s.layers) (by omega), w64_id (x := s.slots * s.layers * s.nx) (by omega), eb, w64_id (x := s.slots * s.layers * (s.nx * s.ny)) (by omega)]
  by_cases h16 : (s.currents.length : Int) = s.slots * s.layers * (s.nx * s.ny)
  ·rw [if_neg (by rw [h16]; simp), decide_eq_true h16]
   have := sea_loop s (by omega) hl s.currents.length 0 K (by omega) (by omega)
   rw [show ((0 : Nat) : Int) = 0 from rfl, List.drop_zero] at this
   rw [this]
   cases s.currents.any (badC s.most) <;> rfl
  ·rw [if_pos (by simpa using h16), decide_eq_false h16]; rfl
 ·rw [if_neg h15, decide_eq_false h15, isobathref03_CheckSea.j1, if_pos rfl]; rfl
theorem ref_great (s : Sea) : isobathlaw03_great.f s.nx s.ny s.cell s.slot s.slots s.layers s.most s.shores s.currents = some (decide ((s.shores.length : Int) > 200) || decide ((s.currents.length : Int) > 3000)) := by
 unfold isobathlaw03_great.f
 by_cases h : (s.shores.length : Int) > 200 <;> simp [h]
/-- Is all of it valid, and of a size that is looked at? -/
def valB (s : Sea) (v : Veh) (x : S31) (t : Int) : Bool := !decide ((s.shores.length : Int) > 200) && !decide ((s.currents.length : Int) > 3000) && seaB s && vehB v && boxB x && decide (0 ≤ t) && decide (t ≤ 1073741824)
theorem ref_val (s : Sea) (v : Veh) (x : S31) (t : Int) (K : Nat) (hk : 3003 ≤ K) : isobathlaw03_valid.f K s.nx s.ny s.cell s.slot s.slots s.layers s.most s.shores s.currents v.speed v.dive v.use.f0 v.use.f1 v.drift.f0 v.drift.f1 v.reserve x.f0.f0 x.f0.f1 x.f1.f0 x.f1.f1 t = some (valB s v x t) := by
 unfold isobathlaw03_valid.f valB
 rw [ref_great, Option.bind_some]
 by_cases h1 : (s.shores.length : Int) > 200
 ·rw [decide_eq_true h1]; rfl
 by_cases h2 : (s.currents.length : Int) > 3000
 ·rw [decide_eq_true h2, decide_eq_false h1]; rfl
 rw [decide_eq_false h1, decide_eq_false h2, if_neg (by decide), ref_sea s K (by omega) (by omega), Option.bind_some, ref_veh, Option.bind_some, ref_box, Option.bind_some]
 unfold seaE vehE
 cases seaB s
 ·rfl
 cases vehB v
 ·rfl
 cases boxB x
 ·rfl
 by_cases h3 : t ≥ 0
 ·rw [if_pos rfl, if_pos rfl, if_pos rfl, if_pos h3, show decide (0 ≤ t) = true from decide_eq_true h3]; rfl
 ·rw [if_pos rfl, if_pos rfl, if_pos rfl, if_neg h3, show decide (0 ≤ t) = false from decide_eq_false h3]; rfl
end Go.Proofs.Ytmhaiihjfgfaoaa.Gl
end
section
/- What Best returns is good, with its cost, and no good plan costs less. -/
namespace Go.Proofs.Ytmhaiihjfgfaoaa.Pure
open Go.RowKit Go.Proofs.YtmhaiihjfgfaoaaW.PrintWords Go.Proofs.YtmhaiihjfgfaoaaW.PrintLast Go.Proofs.Ytmhaiihjfgfaoaa.Pr Go.Proofs.Ytmhaiihjfgfaoaa.Good Go.Proofs.Ytmhaiihjfgfaoaa.Gl
namespace Bst
theorem works {k : Nat} (h : 60 ≤ k) : isobathlaw03_Works.f k = some true := at_rounds isobathlaw03_Works.mono h isobathlaw03_Works.true_
theorem rd_co {l : List S33} {i : Nat} (h : i < l.length) : rd_T33 l (i : Int) = l[i] := by unfold rd_T33; simp [h]
section
variable (s : Sea) (v : Veh) (x : S31) (t : Int) (e : S27) (p : S81) (d : Int) (other plan : List S33) (good : Bool) (cost : Int)
theorem last (hv : vehB v = true) (ho : other.length ≤ 10) (hg : good = true → cost ≤ costF v other) (K : Nat) (hk : 90 ≤ K) : isobathlaw03_GliderBest.j4 K other cost good false v.speed v.dive v.use.f0 v.use.f1 v.drift.f0 v.drift.f1 v.reserve = some true := by
 obtain ⟨K, rfl⟩ : ∃ z, K = z + 1 := ⟨K - 1, by omega⟩
 rw [isobathlaw03_GliderBest.j4, if_neg (by decide)]
 cases good with
 | false => rw [if_neg (by decide), works (by omega)]; rfl
 | true => rw [if_pos rfl, ref_Cost hv other (by omega) K (by omega), Option.bind_some, if_pos (hg rfl), works (by omega)]; rfl
theorem loop (hv : vehB v = true) (ho : other.length ≤ 10) (hp3 : plan.length ≤ 3) (hc : ∀ c ∈ plan, c ∈ crsL s) (hE : PlanE s v x t e plan p = 0) (hco : cost = costF v plan) (hg : good = true → cost ≤ costF v other) : ∀ (m i K : Nat), i + m = plan.length → m + 100 ≤ K →
  isobathlaw03_GliderBest.l0 K t other plan cost good (i : Int) s.nx s.ny s.cell s.slot s.slots s.layers s.most s.shores s.currents v.speed v.dive v.use.f0 v.use.f1 v.drift.f0 v.drift.f1 v.reserve x.f0.f0 x.f0.f1 x.f1.f0 x.f1.f1 e.f0 e.f1 p.f0.f0.f0 p.f0.f0.f1 p.f0.f1.f0 p.f0.f1.f1 p.f1 p.f2 = some true := by
 intro m
 induction m with
 | zero =>
  intro i K h hk
  obtain ⟨K, rfl⟩ : ∃ z, K = z + 1 := ⟨K - 1, by omega⟩
  have hcp : glider_CheckPlan.f s.nx s.ny s.cell s.slot s.slots s.layers s.most s.shores s.currents v.speed v.dive v.use.f0 v.use.f1 v.drift.f0 v.drift.f1 v.reserve x.f0.f0 x.f0.f1 x.f1.f0 x.f1.f1 t e.f0 e.f1 plan p.f0.f0.f0 p.f0.f0.f1 p.f0.f1.f0 p.f0.f1.f1 p.f1 p.f2 = some (PlanE s v x t e plan p) := rfl
  rw [isobathlaw03_GliderBest.l0, if_neg (by omega), hcp, Option.bind_some, if_pos hE, ref_Cost hv plan (by omega) K (by omega), Option.bind_some, ← hco, show (cost != cost) = false by simp]
  exact last v other good cost hv ho hg K (by omega)
 | succ m ih =>
  intro i K h hk
  obtain ⟨K, rfl⟩ : ∃ z, K = z + 1 := ⟨K - 1, by omega⟩
  have hi : i < plan.length := by omega
  have hm := crsL_mem (hc plan[i] (List.getElem_mem hi))
  have hcc : ((i + 1 : Nat) : Int) = (i : Int) + 1 := by omega
  rw [isobathlaw03_GliderBest.l0, if_pos (by omega), if_pos (by omega), rd_co hi, if_neg (by omega), if_neg (by omega), w64_id (x := (i : Int) + 1) (by omega), ← hcc]
  exact ih (i + 1) K (by omega) (by omega)
end
end Bst
open Bst in
theorem GliderBest : ∀ (x0 : S25) (x1 : S29) (x2 : S31) (x3 : Int) (x4 : S27) (x5 : S81) (x6 : Int) (x7 : (List S33)), W25 x0 → W29 x1 → W31 x2 → (Lit.int .i64 x3).wf = true → W27 x4 → W81 x5 → (Lit.int .i64 x6).wf = true → ((∀ y ∈ x7, W33 y) ∧ x7.length * Try.prog.bytesOf 33 ≤ reachBytes) → ∃ k, isobathlaw03_GliderBest.f k (x0.f0) (x0.f1) (x0.f2) (x0.f3) (x0.f4) (x0.f5) (x0.f6) (x0.f7) (x0.f8) (x1.f0) (x1.f1) (x1.f2.f0) (x1.f2.f1) (x1.f3.f0) (x1.f3.f1) (x1.f4) (x2.f0.f0) (x2.f0.f1) (x2.f1.f0) (x2.f1.f1) x3 (x4.f0) (x4.f1) (x5.f0.f0.f0) (x5.f0.f0.f1) (x5.f0.f1.f0) (x5.f0.f1.f1) (x5.f1) (x5.f2) x6 x7 = some true := by
 intro x0 x1 x2 x3 x4 x5 x6 x7 g0 g1 g2 g3 g4 g5 g6 g7
 let s : Sea := ⟨x0.f0, x0.f1, x0.f2, x0.f3, x0.f4, x0.f5, x0.f6, x0.f7, x0.f8⟩
 let v : Veh := ⟨x1.f0, x1.f1, ⟨x1.f2.f0, x1.f2.f1⟩, ⟨x1.f3.f0, x1.f3.f1⟩, x1.f4⟩
 have main : ∀ K : Nat, 4000 ≤ K → isobathlaw03_GliderBest.f (K + 3) s.nx s.ny s.cell s.slot s.slots s.layers s.most s.shores s.currents v.speed v.dive v.use.f0 v.use.f1 v.drift.f0 v.drift.f1 v.reserve x2.f0.f0 x2.f0.f1 x2.f1.f0 x2.f1.f1 x3 x4.f0 x4.f1 x5.f0.f0.f0 x5.f0.f0.f1 x5.f0.f1.f0 x5.f0.f1.f1 x5.f1 x5.f2 x6 x7 = some true := by
  intro K hK
  have ht : isobathlaw03_GliderBest.j0 (K + 3) x3 x6 x7 true s.nx s.ny s.cell s.slot s.slots s.layers s.most s.shores s.currents v.speed v.dive v.use.f0 v.use.f1 v.drift.f0 v.drift.f1 v.reserve x2.f0.f0 x2.f0.f1 x2.f1.f0 x2.f1.f1 x4.f0 x4.f1 x5.f0.f0.f0 x5.f0.f0.f1 x5.f0.f1.f0 x5.f0.f1.f1 x5.f1 x5.f2 = some true := by
   rw [isobathlaw03_GliderBest.j0, if_pos rfl, works (by omega)]; rfl
  unfold isobathlaw03_GliderBest.f
  rw [ref_val s v x2 x3 (K + 3) (by omega), Option.bind_some]
  by_cases hval : valB s v x2 x3 = true
  case neg => rw [if_neg hval, ht]
  rw [if_pos hval]
  have hdeep : ∃ b, isobathlaw03_deep.f s.nx s.ny s.cell s.slot s.slots s.layers s.most s.shores s.currents x6 = some b := by
   unfold isobathlaw03_deep.f
   split
   ·exact ⟨_, rfl⟩
   ·exact ⟨_, rfl⟩
  obtain ⟨b, hb⟩ := hdeep
  rw [hb, Option.bind_some]
  cases b with
  | true => rw [if_pos rfl, ht]
  | false =>
   rw [if_neg (by decide)]
   by_cases h7 : (x7.length : Int) > 10
   ·rw [decide_eq_true h7, ht]
   rw [decide_eq_false h7, isobathlaw03_GliderBest.j0, if_neg (by decide)]
   unfold valB at hval
   simp only [Bool.and_eq_true, Bool.not_eq_true', decide_eq_false_iff_not, decide_eq_true_eq] at hval
   obtain ⟨⟨⟨⟨⟨⟨v1, v2⟩, v3⟩, v4⟩, v5⟩, v6⟩, v7⟩ := hval
   have hbe : glider_Best.f s.nx s.ny s.cell s.slot s.slots s.layers s.most s.shores s.currents v.speed v.dive v.use.f0 v.use.f1 v.drift.f0 v.drift.f1 v.reserve x2.f0.f0 x2.f0.f1 x2.f1.f0 x2.f1.f1 x3 x4.f0 x4.f1 x5.f0.f0.f0 x5.f0.f0.f1 x5.f0.f1.f0 x5.f0.f1.f1 x5.f1 x5.f2 x6 = some ((BestX s v x2 x3 x4 x5 x6).1, (BestX s v x2 x3 x4 x5 x6).2, BestE s v x2 x3 x4 x5 x6) := rfl
   rw [hbe, Option.bind_some]
   dsimp only
   have hgo : ∀ good : Bool, (good = true → 1 ≤ x7.length ∧ (x7.length : Int) ≤ x6 ∧ PlanE s v x2 x3 x4 x7 x5 = 0) → isobathlaw03_GliderBest.j1 (K + 2) x3 x6 x7 (BestX s v x2 x3 x4 x5 x6).1 (BestX s v x2 x3 x4 x5 x6).2 (BestE s v x2 x3 x4 x5 x6) good s.nx s.ny s.cell s.slot s.slots s.layers s.most s.shores s.currents v.speed v.dive v.use.f0 v.use.f1 v.drift.f0 v.drift.f1 v.reserve x2.f0.f0 x2.f0.f1 x2.f1.f0 x2.f1.f1 x4.f0 x4.f1 x5.f0.f0.f0 x5.f0.f0.f1 x5.f0.f1.f0 x5.f0.f1.f1 x5.f1 x5.f2 = some true := by
    intro good hg
    rw [isobathlaw03_GliderBest.j1]
    by_cases hE : BestE s v x2 x3 x4 x5 x6 = 0
    case neg =>
     have hX : BestX s v x2 x3 x4 x5 x6 = ([], 0) := by unfold BestX; rw [if_neg hE]
     rw [if_neg hE, hX]
     by_cases h15 : BestE s v x2 x3 x4 x5 x6 = 15
     ·rw [if_pos h15]
      cases good with
      | true =>
       obtain ⟨q1, q2, q3⟩ := hg rfl
       exact absurd h15 (Best_least q1 q2 q3).1
      | false =>
       rw [if_neg (by decide), if_pos (show (([] : List S33).length : Int) = 0 from rfl), if_pos rfl, works (by omega)]; rfl
     ·rw [if_neg h15, if_pos (show (([] : List S33).length : Int) = 0 from rfl), if_pos rfl, works (by omega)]; rfl
    obtain ⟨l, hX, k1, k2, k3, k4, k5⟩ := Best_good hE
    obtain ⟨b1, _⟩ := plan_parts k5
    obtain ⟨hv, hS⟩ := begin_veh b1
    have hco : good = true → (BestX s v x2 x3 x4 x5 x6).2 ≤ costF v x7 := fun h => by
     obtain ⟨q1, q2, q3⟩ := hg h
     exact (Best_least q1 q2 q3).2 hE
    rw [hX] at hco ⊢
    dsimp only at hco ⊢
    rw [if_pos hE, if_neg (by omega), if_neg (by omega), decide_eq_false (show ¬((l.length : Int) > 3) by omega), isobathlaw03_GliderBest.j2, if_neg (by decide)]
    exact loop s v x2 x3 x4 x5 x7 l good (costF v l) hv (by omega) k3 k4 k5 rfl hco l.length 0 K (Nat.zero_add _) (by omega)
   by_cases h1 : (x7.length : Int) ≥ 1
   case neg => rw [if_neg h1]; exact hgo false (fun h => by cases h)
   rw [if_pos h1]
   by_cases h2 : (x7.length : Int) ≤ x6
   case neg => rw [if_neg h2]; exact hgo false (fun h => by cases h)
   have hcp : glider_CheckPlan.f s.nx s.ny s.cell s.slot s.slots s.layers s.most s.shores s.currents v.speed v.dive v.use.f0 v.use.f1 v.drift.f0 v.drift.f1 v.reserve x2.f0.f0 x2.f0.f1 x2.f1.f0 x2.f1.f1 x3 x4.f0 x4.f1 x7 x5.f0.f0.f0 x5.f0.f0.f1 x5.f0.f1.f0 x5.f0.f1.f1 x5.f1 x5.f2 = some (PlanE s v x2 x3 x4 x7 x5) := rfl
   rw [if_pos h2, hcp, Option.bind_some]
   exact hgo _ (fun h => ⟨by omega, h2, beq_iff_eq.1 h⟩)
 exact ⟨4000 + 3, main 4000 (Nat.le_refl _)⟩
end Go.Proofs.Ytmhaiihjfgfaoaa.Pure
end
