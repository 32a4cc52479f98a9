/- The law isobathtop.TopSearched: for every input it answers true. No condition. -/
import Derived.Test.YthglkoddmpicdaaTsTopSearched3
import Derived.Test.YthglkoddmpicdaaTsTopSearched20
import Derived.Test.YthglkoddmpicdaaTsTopSearched21
import Derived.Test.YthglkoddmpicdaaTsTopSearched22
import Derived.Test.YthglkoddmpicdaaRows
import Derived.WalkKit
import Derived.ProofKit
import Derived.OpenShut
import Derived.ShutString
import Derived.ChangeOld
import Derived.Below
import Derived.SizedLaws
namespace Go.Proofs.Ythglkoddmpicdaa.topSearched
open Go.ChangeShapes Go.WideShapes Go.ChangeAt Go.RowKit Go.Proofs.YthglkoddmpicdaaW.PrintWords Go.Proofs.Ythglkoddmpicdaa.Pr Go.Proofs.Ythglkoddmpicdaa.Good Go.Proofs.YthglkoddmpicdaaW.Opens
open Go.ChangeMaps (open_string shut_string)
set_option linter.unusedVariables false
theorem own : ownKnob Try.prog.godebug = none := by kernel_rfl
theorem laidOut : laidOutB Try.prog = true := by kernel_rfl
set_option maxRecDepth 100000 in
theorem lifted (os : Os) (started : os.Started) (H : Type) (enc : TypeId × Value → H) :
    ReturnsInHanded {} Try.checked os 9 .any (Rows.topSearchedSpec.pre6 enc Try.prog Try.f9 Rows.topSearchedRow.domain false) (Rows.topSearchedSpec.post enc Try.prog Try.f9 false true false false) := by
  refine returnsInHanded_of_change_sized (C := Try.checked) own started (by kernel_rfl) Try.func9
    (ChangeSpec.witness6 (enc := enc) (C := Try.checked) false ⟨#[], #[.agg #[.int .i64 0, .int .i64 0, .int .i64 0, .int .i64 0, .int .i64 0, .int .i64 0, .int .i64 0, .slice none 0 0, .slice none 0 0], .agg #[.int .i64 0, .int .i64 0, .int .i64 0, .int .i64 0, .int .i64 0, .int .i64 0, .int .i64 0], .agg #[.int .i64 0, .int .i64 0, .int .i64 0, .int .i64 0], .int .i64 0, .slice none 0 0, .agg #[.int .i64 0, .int .i64 0, .int .i64 0, .int .i64 0, .int .i64 0, .int .i64 0]], []⟩ 8 (by kernel_rfl) (by kernel_rfl) (by kernel_rfl) (by kernel_rfl)) ?_
  intro W base args ds gs before hval0 hW hcnd hsz0 _
  have hsz : (DataW.weightsEach Try.prog (Try.f9.params.toList ++ Rows.topSearchedSpec.plain.varTypes Try.prog) (ds ++ gs)).all (· ≤ reachBytes) = true := hsz0
  have hval : ∀ (j : Nat) t v, Try.f9.params[j]? = some t → args[j]? = some v → Value.okWide Try.prog W .any base t v := hval0
  have hW' := hW
  obtain ⟨p, q, hA0, hV, rfl, hfz, hnd⟩ := hW
  have hA : DataW.TrodAll enc Try.prog W 0 (fun _ => true) true Try.f9.params.toList args.toList ds p := hA0
  rw [Try.params9] at hA hval hsz
  obtain ⟨v0, vs0, d0, ds0, p0, q0, hargs, rfl, rfl, h0, r0⟩ := trodAll_cons hA
  obtain ⟨v1, vs1, d1, ds1, p1, q1, rfl, rfl, rfl, h1, r1⟩ := trodAll_cons r0
  obtain ⟨v2, vs2, d2, ds2, p2, q2, rfl, rfl, rfl, h2, r2⟩ := trodAll_cons r1
  obtain ⟨v3, vs3, d3, ds3, p3, q3, rfl, rfl, rfl, h3, r3⟩ := trodAll_cons r2
  obtain ⟨v4, vs4, d4, ds4, p4, q4, rfl, rfl, rfl, h4, r4⟩ := trodAll_cons r3
  obtain ⟨v5, vs5, d5, ds5, p5, q5, rfl, rfl, rfl, h5, r5⟩ := trodAll_cons r4
  obtain ⟨rfl, rfl, rfl⟩ := trodAll_nil r5
  obtain rfl : args = #[v0, v1, v2, v3, v4, v5] := by cases args; simp_all
  obtain ⟨rfl, rfl⟩ := trodVars_none hV
  have k0 := h0
  have lt0 : ∀ x ∈ p0, x.block < W.heap.size := by obtain ⟨m, hm⟩ := k0; exact DataW.trod_lt m _ _ _ hm
  obtain ⟨cs0, rfl, _⟩ := okWide_struct Try.underlying25 (hval 0 25 v0 rfl rfl)
  obtain ⟨y0, K0, g0⟩ := Opens.arg opens25 h0 hsz (j := 0) rfl rfl
  have K0' : (k25).K W y0 cs0.toList := K0
  obtain ⟨A0_7, c0_7, A0_8, c0_8, e0, l0_7, C0_7, l0_8, C0_8⟩ := k25_open K0'
  obtain rfl := Array.toList_inj.1 (e0 : cs0.toList = (#[.int .i64 y0.f0, .int .i64 y0.f1, .int .i64 y0.f2, .int .i64 y0.f3, .int .i64 y0.f4, .int .i64 y0.f5, .int .i64 y0.f6, .slice A0_7 y0.f7.length c0_7, .slice A0_8 y0.f8.length c0_8] : Array Value).toList)
  have k1 := h1
  have lt1 : ∀ x ∈ p1, x.block < W.heap.size := by obtain ⟨m, hm⟩ := k1; exact DataW.trod_lt m _ _ _ hm
  obtain ⟨cs1, rfl, _⟩ := okWide_struct Try.underlying41 (hval 1 41 v1 rfl rfl)
  obtain ⟨y1, K1, g1⟩ := Opens.arg opens41 h1 hsz (j := 1) rfl rfl
  have K1' : (k41).K W y1 cs1.toList := K1
  obtain e1 := k41_open K1'
  obtain rfl := Array.toList_inj.1 (e1 : cs1.toList = (#[.int .i64 y1.f0, .int .i64 y1.f1, .int .i64 y1.f2.f0, .int .i64 y1.f2.f1, .int .i64 y1.f3.f0, .int .i64 y1.f3.f1, .int .i64 y1.f4] : Array Value).toList)
  have k2 := h2
  have lt2 : ∀ x ∈ p2, x.block < W.heap.size := by obtain ⟨m, hm⟩ := k2; exact DataW.trod_lt m _ _ _ hm
  obtain ⟨cs2, rfl, _⟩ := okWide_struct Try.underlying29 (hval 2 29 v2 rfl rfl)
  obtain ⟨y2, K2, g2⟩ := Opens.arg opens29 h2 hsz (j := 2) rfl rfl
  have K2' : (k29).K W y2 cs2.toList := K2
  obtain e2 := k29_open K2'
  obtain rfl := Array.toList_inj.1 (e2 : cs2.toList = (#[.int .i64 y2.f0.f0, .int .i64 y2.f0.f1, .int .i64 y2.f1.f0, .int .i64 y2.f1.f1] : Array Value).toList)
  obtain ⟨a3, rfl, rfl, rfl, w3⟩ := open_int Try.underlying2 (hval 3 2 v3 rfl rfl) h3
  have k4 := h4
  have lt4 : ∀ x ∈ p4, x.block < W.heap.size := by obtain ⟨m, hm⟩ := k4; exact DataW.trod_lt m _ _ _ hm
  obtain ⟨A4, n4, c4, rfl⟩ := okWide_slice Try.underlying102 (hval 4 102 v4 rfl rfl)
  obtain ⟨y4, K4, g4⟩ := Opens.arg (Opens.slice 76 Try.underlying102 (by kernel_rfl) opens76) h4 hsz (j := 4) rfl rfl
  obtain ⟨_, _, e4, l4, C4⟩ := K4
  obtain ⟨rfl, rfl, rfl⟩ : _ ∧ _ ∧ _ := by simpa [Value.cells] using e4
  have k5 := h5
  have lt5 : ∀ x ∈ p5, x.block < W.heap.size := by obtain ⟨m, hm⟩ := k5; exact DataW.trod_lt m _ _ _ hm
  obtain ⟨cs5, rfl, _⟩ := okWide_struct Try.underlying44 (hval 5 44 v5 rfl rfl)
  obtain ⟨y5, K5, g5⟩ := Opens.arg opens44 h5 hsz (j := 5) rfl rfl
  have K5' : (k44).K W y5 cs5.toList := K5
  obtain e5 := k44_open K5'
  obtain rfl := Array.toList_inj.1 (e5 : cs5.toList = (#[.int .i64 y5.f0.f0.f0, .int .i64 y5.f0.f0.f1, .int .i64 y5.f0.f1.f0, .int .i64 y5.f0.f1.f1, .int .i64 y5.f1, .int .i64 y5.f2] : Array Value).toList)
  clear hA0 hval0 hsz0 hsz
  obtain ⟨kk, hp⟩ := Pure.TopSearched y0 y1 y2 a3 y4 y5 g0 g1 g2 w3 g4 g5
  refine (Pr.isobathtop_TopSearched.calls kk (y0.f0) (y0.f1) (y0.f2) (y0.f3) (y0.f4) (y0.f5) (y0.f6) _ _ (y0.f7) _ _ (y0.f8) (y1.f0) (y1.f1) (y1.f2.f0) (y1.f2.f1) (y1.f3.f0) (y1.f3.f1) (y1.f4) (y2.f0.f0) (y2.f0.f1) (y2.f1.f0) (y2.f1.f1) a3 _ _ y4 (y5.f0.f0.f0) (y5.f0.f0.f1) (y5.f0.f1.f0) (y5.f0.f1.f1) (y5.f1) (y5.f2) true W C0_7 l0_7 C0_8 l0_8 C4 l4 hp ⟨rfl⟩).mono fun e W' ⟨he, bel⟩ => ?_
  subst he
  exact ⟨_, rfl, _, _, _, [], _, [], hW', trodAll_mk1 (shut_bool Try.underlying4 _), (trodAll_cons_mk (Below.trod laidOut (by kernel_rfl) (of_decide_eq_true (by kernel_rfl)) k0 bel lt0) (trodAll_cons_mk (Below.trod laidOut (by kernel_rfl) (of_decide_eq_true (by kernel_rfl)) k1 bel lt1) (trodAll_cons_mk (Below.trod laidOut (by kernel_rfl) (of_decide_eq_true (by kernel_rfl)) k2 bel lt2) (trodAll_cons_mk (shut_int Try.underlying2 w3) (trodAll_cons_mk (Below.trod laidOut (by kernel_rfl) (of_decide_eq_true (by kernel_rfl)) k4 bel lt4) (trodAll_cons_mk (Below.trod laidOut (by kernel_rfl) (of_decide_eq_true (by kernel_rfl)) k5 bel lt5) trodAll_mk0)))))), rfl, bel.frame _, fun h => by cases h⟩
theorem over : Rows.topSearchedRow.holds Try.pinned (OpenSpec.ofChange Rows.topSearchedSpec) :=
  OpenClaim.holds_of_wide 9 Try.f9 rfl rfl rfl rfl rfl rfl rfl ⟨rfl, rfl, rfl, rfl, rfl⟩ rfl rfl rfl rfl rfl (by kernel_rfl) Try.func9 (by kernel_rfl)
    (of_decide_eq_true (by kernel_rfl)) (by unfold Func.isWrapper; first | (rw [if_pos (by decide +kernel)]; kernel_rfl) | (rw [if_neg (by decide +kernel)]; exact ⟨rfl, rfl⟩))
    (fun os started H enc _ => lifted os started H enc)
theorem proved : Rows.TopSearchedSaid := over
#print axioms proved
end Go.Proofs.Ythglkoddmpicdaa.topSearched
namespace Go.Proofs.Ythglkoddmpicdaa
/-- The row, under a short name, for the claim. -/
theorem topSearched_holds : Rows.TopSearchedSaid := topSearched.proved
end Go.Proofs.Ythglkoddmpicdaa
