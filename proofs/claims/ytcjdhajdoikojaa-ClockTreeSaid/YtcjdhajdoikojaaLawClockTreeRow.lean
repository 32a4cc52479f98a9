/- The law isobathlaw05.ClockTree: for every input it answers true. No condition. -/
import Derived.Test.YtcjdhajdoikojaaDrClockTree8
import Derived.Test.YtcjdhajdoikojaaDrClockTree9
import Derived.Test.YtcjdhajdoikojaaRows
import Derived.WalkKit
import Derived.ProofKit
import Derived.OpenShut
import Derived.ShutString
import Derived.ChangeOld
import Derived.Below
import Derived.SizedLaws
namespace Go.Proofs.Ytcjdhajdoikojaa.clockTree
open Go.ChangeShapes Go.WideShapes Go.ChangeAt Go.RowKit Go.Proofs.YtcjdhajdoikojaaW.PrintWords Go.Proofs.Ytcjdhajdoikojaa.Pr Go.Proofs.Ytcjdhajdoikojaa.Good Go.Proofs.YtcjdhajdoikojaaW.Opens
open Go.ChangeMaps (open_string shut_string)
set_option linter.unusedVariables false
theorem own : ownKnob Try.prog.godebug = none := by kernel_rfl
theorem laidOut : laidOutB Try.prog = true := by kernel_rfl
theorem okWide_array_ {P : Program} {w : World} {r : Reach} {base : Nat} {t : TypeId} {v : Value} {n e : Nat} (ht : P.underlying t = some (.array n e)) (h : Value.okWide P w r base t v) : ∃ cs, v = .agg cs := by
  simp only [Value.okWide, ht] at h
  obtain ⟨cs, h1, _⟩ := h
  exact ⟨cs, h1⟩
set_option maxRecDepth 100000 in
theorem lifted (os : Os) (started : os.Started) (H : Type) (enc : TypeId × Value → H) :
    ReturnsInHanded {} Try.checked os 3 .any (Rows.clockTreeSpec.pre6 enc Try.prog Try.f3 Rows.clockTreeRow.domain false) (Rows.clockTreeSpec.post enc Try.prog Try.f3 false true false false) := by
  refine returnsInHanded_of_change_sized (C := Try.checked) own started (by kernel_rfl) Try.func3
    (ChangeSpec.witness6 (enc := enc) (C := Try.checked) false ⟨#[], #[.agg #[.int .i32 0, .slice none 0 0], .agg #[.int .i32 0, .slice none 0 0], .agg #[.int .u32 0, .int .u32 0], .slice none 0 0, .slice none 0 0, .int .u32 0], []⟩ 8 (by kernel_rfl) (by kernel_rfl) (by kernel_rfl) (by kernel_rfl)) ?_
  intro W base args ds gs before hval0 hW hcnd hsz0 _
  have hsz : (DataW.weightsEach Try.prog (Try.f3.params.toList ++ Rows.clockTreeSpec.plain.varTypes Try.prog) (ds ++ gs)).all (· ≤ reachBytes) = true := hsz0
  have hval : ∀ (j : Nat) t v, Try.f3.params[j]? = some t → args[j]? = some v → Value.okWide Try.prog W .any base t v := hval0
  have hW' := hW
  obtain ⟨p, q, hA0, hV, rfl, hfz, hnd⟩ := hW
  have hA : DataW.TrodAll enc Try.prog W 0 (fun _ => true) true Try.f3.params.toList args.toList ds p := hA0
  rw [Try.params3] at hA hval hsz
  obtain ⟨v0, vs0, d0, ds0, p0, q0, hargs, rfl, rfl, h0, r0⟩ := trodAll_cons hA
  obtain ⟨v1, vs1, d1, ds1, p1, q1, rfl, rfl, rfl, h1, r1⟩ := trodAll_cons r0
  obtain ⟨v2, vs2, d2, ds2, p2, q2, rfl, rfl, rfl, h2, r2⟩ := trodAll_cons r1
  obtain ⟨v3, vs3, d3, ds3, p3, q3, rfl, rfl, rfl, h3, r3⟩ := trodAll_cons r2
  obtain ⟨v4, vs4, d4, ds4, p4, q4, rfl, rfl, rfl, h4, r4⟩ := trodAll_cons r3
  obtain ⟨v5, vs5, d5, ds5, p5, q5, rfl, rfl, rfl, h5, r5⟩ := trodAll_cons r4
  obtain ⟨rfl, rfl, rfl⟩ := trodAll_nil r5
  obtain rfl : args = #[v0, v1, v2, v3, v4, v5] := by cases args; simp_all
  obtain ⟨rfl, rfl⟩ := trodVars_none hV
  have k0 := h0
  have lt0 : ∀ x ∈ p0, x.block < W.heap.size := by obtain ⟨m, hm⟩ := k0; exact DataW.trod_lt m _ _ _ hm
  obtain ⟨cs0, rfl, _⟩ := okWide_struct Try.underlying24 (hval 0 24 v0 rfl rfl)
  obtain ⟨y0, K0, g0⟩ := Opens.arg opens24 h0 hsz (j := 0) rfl rfl
  have K0' : (k24).K W y0 cs0.toList := K0
  obtain ⟨A0_1, c0_1, e0, l0_1, C0_1⟩ := k24_open K0'
  obtain rfl := Array.toList_inj.1 (e0 : cs0.toList = (#[.int .i32 y0.f0, .slice A0_1 y0.f1.length c0_1] : Array Value).toList)
  have k1 := h1
  have lt1 : ∀ x ∈ p1, x.block < W.heap.size := by obtain ⟨m, hm⟩ := k1; exact DataW.trod_lt m _ _ _ hm
  obtain ⟨cs1, rfl, _⟩ := okWide_struct Try.underlying24 (hval 1 24 v1 rfl rfl)
  obtain ⟨y1, K1, g1⟩ := Opens.arg opens24 h1 hsz (j := 1) rfl rfl
  have K1' : (k24).K W y1 cs1.toList := K1
  obtain ⟨A1_1, c1_1, e1, l1_1, C1_1⟩ := k24_open K1'
  obtain rfl := Array.toList_inj.1 (e1 : cs1.toList = (#[.int .i32 y1.f0, .slice A1_1 y1.f1.length c1_1] : Array Value).toList)
  have k2 := h2
  have lt2 : ∀ x ∈ p2, x.block < W.heap.size := by obtain ⟨m, hm⟩ := k2; exact DataW.trod_lt m _ _ _ hm
  obtain ⟨cs2, rfl⟩ : ∃ cs, v2 = .agg cs := okWide_array_ Try.underlying26 (hval 2 26 v2 rfl rfl)
  obtain ⟨y2, K2, g2⟩ := Opens.arg opens26 h2 hsz (j := 2) rfl rfl
  have K2' : (kG26).K W y2 cs2.toList := K2
  obtain e2 := kG26_open K2'
  obtain rfl := Array.toList_inj.1 (e2 : cs2.toList = (#[.int .u32 y2.f0, .int .u32 y2.f1] : Array Value).toList)
  have k3 := h3
  have lt3 : ∀ x ∈ p3, x.block < W.heap.size := by obtain ⟨m, hm⟩ := k3; exact DataW.trod_lt m _ _ _ hm
  obtain ⟨A3, n3, c3, rfl⟩ := okWide_slice Try.underlying27 (hval 3 27 v3 rfl rfl)
  obtain ⟨y3, K3, g3⟩ := Opens.arg (Opens.slice 93 Try.underlying27 (by kernel_rfl) opens93) h3 hsz (j := 3) rfl rfl
  obtain ⟨_, _, e3, l3, C3⟩ := K3
  obtain ⟨rfl, rfl, rfl⟩ : _ ∧ _ ∧ _ := by simpa [Value.cells] using e3
  have k4 := h4
  have lt4 : ∀ x ∈ p4, x.block < W.heap.size := by obtain ⟨m, hm⟩ := k4; exact DataW.trod_lt m _ _ _ hm
  obtain ⟨A4, n4, c4, rfl⟩ := okWide_slice Try.underlying27 (hval 4 27 v4 rfl rfl)
  obtain ⟨y4, K4, g4⟩ := Opens.arg (Opens.slice 93 Try.underlying27 (by kernel_rfl) opens93) h4 hsz (j := 4) rfl rfl
  obtain ⟨_, _, e4, l4, C4⟩ := K4
  obtain ⟨rfl, rfl, rfl⟩ : _ ∧ _ ∧ _ := by simpa [Value.cells] using e4
  obtain ⟨a5, rfl, rfl, rfl, w5⟩ := open_int Try.underlying25 (hval 5 25 v5 rfl rfl) h5
  clear hA0 hval0 hsz0 hsz
  obtain ⟨kk, hp⟩ := Pure.ClockTree y0 y1 y2 y3 y4 a5 g0 g1 g2 g3 g4 w5
  refine (Pr.isobathlaw05_ClockTree.calls kk (y0.f0) _ _ (y0.f1) (y1.f0) _ _ (y1.f1) (y2.f0) (y2.f1) _ _ y3 _ _ y4 a5 true W C0_1 l0_1 C1_1 l1_1 C3 l3 C4 l4 hp ⟨rfl⟩).mono fun e W' ⟨he, bel⟩ => ?_
  subst he
  exact ⟨_, rfl, _, _, _, [], _, [], hW', trodAll_mk1 (shut_bool Try.underlying4 _), (trodAll_cons_mk (Below.trod laidOut (by kernel_rfl) (of_decide_eq_true (by kernel_rfl)) k0 bel lt0) (trodAll_cons_mk (Below.trod laidOut (by kernel_rfl) (of_decide_eq_true (by kernel_rfl)) k1 bel lt1) (trodAll_cons_mk (Below.trod laidOut (by kernel_rfl) (of_decide_eq_true (by kernel_rfl)) k2 bel lt2) (trodAll_cons_mk (Below.trod laidOut (by kernel_rfl) (of_decide_eq_true (by kernel_rfl)) k3 bel lt3) (trodAll_cons_mk (Below.trod laidOut (by kernel_rfl) (of_decide_eq_true (by kernel_rfl)) k4 bel lt4) (trodAll_cons_mk (shut_int Try.underlying25 w5) trodAll_mk0)))))), rfl, bel.frame _, fun h => by cases h⟩
theorem over : Rows.clockTreeRow.holds Try.pinned (OpenSpec.ofChange Rows.clockTreeSpec) :=
  OpenClaim.holds_of_wide 3 Try.f3 rfl rfl rfl rfl rfl rfl rfl ⟨rfl, rfl, rfl, rfl, rfl⟩ rfl rfl rfl rfl rfl (by kernel_rfl) Try.func3 (by kernel_rfl)
    (of_decide_eq_true (by kernel_rfl)) (by unfold Func.isWrapper; first | (rw [if_pos (by decide +kernel)]; kernel_rfl) | (rw [if_neg (by decide +kernel)]; exact ⟨rfl, rfl⟩))
    (fun os started H enc _ => lifted os started H enc)
theorem proved : Rows.ClockTreeSaid := over
#print axioms proved
end Go.Proofs.Ytcjdhajdoikojaa.clockTree
namespace Go.Proofs.Ytcjdhajdoikojaa
/-- The row, under a short name, for the claim. -/
theorem clockTree_holds : Rows.ClockTreeSaid := clockTree.proved
end Go.Proofs.Ytcjdhajdoikojaa
