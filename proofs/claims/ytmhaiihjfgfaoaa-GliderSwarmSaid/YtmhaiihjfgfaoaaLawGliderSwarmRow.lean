/- The law isobathlaw03.GliderSwarm: for every input it answers true. No condition. -/
import Derived.Test.YtmhaiihjfgfaoaaGsGliderSwarm3
import Derived.Test.YtmhaiihjfgfaoaaGsGliderSwarm20
import Derived.Test.YtmhaiihjfgfaoaaGsGliderSwarm21
import Derived.Test.YtmhaiihjfgfaoaaRows
import Derived.WalkKit
import Derived.ProofKit
import Derived.OpenShut
import Derived.ShutString
import Derived.ChangeOld
import Derived.Below
import Derived.SizedLaws
namespace Go.Proofs.Ytmhaiihjfgfaoaa.gliderSwarm
open Go.ChangeShapes Go.WideShapes Go.ChangeAt Go.RowKit Go.Proofs.YtmhaiihjfgfaoaaW.PrintWords Go.Proofs.Ytmhaiihjfgfaoaa.Pr Go.Proofs.Ytmhaiihjfgfaoaa.Good Go.Proofs.YtmhaiihjfgfaoaaW.Opens
open Go.ChangeMaps (open_string shut_string)
set_option linter.unusedVariables false
theorem own : ownKnob Try.prog.godebug = none := by kernel_rfl
theorem laidOut : laidOutB Try.prog = true := by kernel_rfl
set_option maxRecDepth 100000 in
theorem lifted (os : Os) (started : os.Started) (H : Type) (enc : TypeId × Value → H) :
    ReturnsInHanded {} Try.checked os 9 .any (Rows.gliderSwarmSpec.pre6 enc Try.prog Try.f9 Rows.gliderSwarmRow.domain false) (Rows.gliderSwarmSpec.post enc Try.prog Try.f9 false true false false) := by
  refine returnsInHanded_of_change_sized (C := Try.checked) own started (by kernel_rfl) Try.func9
    (ChangeSpec.witness6 (enc := enc) (C := Try.checked) false ⟨#[], #[.agg #[.int .i64 0, .int .i64 0, .int .i64 0, .int .i64 0, .int .i64 0, .int .i64 0, .int .i64 0, .slice none 0 0, .slice none 0 0], .slice none 0 0, .slice none 0 0], []⟩ 8 (by kernel_rfl) (by kernel_rfl) (by kernel_rfl) (by kernel_rfl)) ?_
  intro W base args ds gs before hval0 hW hcnd hsz0 _
  have hsz : (DataW.weightsEach Try.prog (Try.f9.params.toList ++ Rows.gliderSwarmSpec.plain.varTypes Try.prog) (ds ++ gs)).all (· ≤ reachBytes) = true := hsz0
  have hval : ∀ (j : Nat) t v, Try.f9.params[j]? = some t → args[j]? = some v → Value.okWide Try.prog W .any base t v := hval0
  have hW' := hW
  obtain ⟨p, q, hA0, hV, rfl, hfz, hnd⟩ := hW
  have hA : DataW.TrodAll enc Try.prog W 0 (fun _ => true) true Try.f9.params.toList args.toList ds p := hA0
  rw [Try.params9] at hA hval hsz
  obtain ⟨v0, vs0, d0, ds0, p0, q0, hargs, rfl, rfl, h0, r0⟩ := trodAll_cons hA
  obtain ⟨v1, vs1, d1, ds1, p1, q1, rfl, rfl, rfl, h1, r1⟩ := trodAll_cons r0
  obtain ⟨v2, vs2, d2, ds2, p2, q2, rfl, rfl, rfl, h2, r2⟩ := trodAll_cons r1
  obtain ⟨rfl, rfl, rfl⟩ := trodAll_nil r2
  obtain rfl : args = #[v0, v1, v2] := by cases args; simp_all
  obtain ⟨rfl, rfl⟩ := trodVars_none hV
  have k0 := h0
  have lt0 : ∀ x ∈ p0, x.block < W.heap.size := by obtain ⟨m, hm⟩ := k0; exact DataW.trod_lt m _ _ _ hm
  obtain ⟨cs0, rfl, _⟩ := okWide_struct Try.underlying25 (hval 0 25 v0 rfl rfl)
  obtain ⟨y0, K0, g0⟩ := Opens.arg opens25 h0 hsz (j := 0) rfl rfl
  have K0' : (k25).K W y0 cs0.toList := K0
  obtain ⟨A0_7, c0_7, A0_8, c0_8, e0, l0_7, C0_7, l0_8, C0_8⟩ := k25_open K0'
  obtain rfl := Array.toList_inj.1 (e0 : cs0.toList = (#[.int .i64 y0.f0, .int .i64 y0.f1, .int .i64 y0.f2, .int .i64 y0.f3, .int .i64 y0.f4, .int .i64 y0.f5, .int .i64 y0.f6, .slice A0_7 y0.f7.length c0_7, .slice A0_8 y0.f8.length c0_8] : Array Value).toList)
  have k1 := h1
  have lt1 : ∀ x ∈ p1, x.block < W.heap.size := by obtain ⟨m, hm⟩ := k1; exact DataW.trod_lt m _ _ _ hm
  obtain ⟨A1, n1, c1, rfl⟩ := okWide_slice Try.underlying71 (hval 1 71 v1 rfl rfl)
  obtain ⟨y1, K1, g1⟩ := Opens.arg (Opens.slice 50 Try.underlying71 (by kernel_rfl) (Opens.slice 31 Try.underlying50 (by kernel_rfl) opens31)) h1 hsz (j := 1) rfl rfl
  obtain ⟨_, _, e1, l1, C1⟩ := K1
  obtain ⟨rfl, rfl, rfl⟩ : _ ∧ _ ∧ _ := by simpa [Value.cells] using e1
  have k2 := h2
  have lt2 : ∀ x ∈ p2, x.block < W.heap.size := by obtain ⟨m, hm⟩ := k2; exact DataW.trod_lt m _ _ _ hm
  obtain ⟨A2, n2, c2, rfl⟩ := okWide_slice Try.underlying50 (hval 2 50 v2 rfl rfl)
  obtain ⟨y2, K2, g2⟩ := Opens.arg (Opens.slice 31 Try.underlying50 (by kernel_rfl) opens31) h2 hsz (j := 2) rfl rfl
  obtain ⟨_, _, e2, l2, C2⟩ := K2
  obtain ⟨rfl, rfl, rfl⟩ : _ ∧ _ ∧ _ := by simpa [Value.cells] using e2
  clear hA0 hval0 hsz0 hsz
  obtain ⟨kk, hp⟩ := Pure.GliderSwarm y0 y1 y2 g0 g1 g2
  refine (Pr.isobathlaw03_GliderSwarm.calls kk (y0.f0) (y0.f1) (y0.f2) (y0.f3) (y0.f4) (y0.f5) (y0.f6) _ _ (y0.f7) _ _ (y0.f8) _ _ y1 _ _ y2 true W C0_7 l0_7 C0_8 l0_8 C1 l1 C2 l2 hp ⟨rfl⟩).mono fun e W' ⟨he, bel⟩ => ?_
  subst he
  exact ⟨_, rfl, _, _, _, [], _, [], hW', trodAll_mk1 (shut_bool Try.underlying4 _), (trodAll_cons_mk (Below.trod laidOut (by kernel_rfl) (of_decide_eq_true (by kernel_rfl)) k0 bel lt0) (trodAll_cons_mk (Below.trod laidOut (by kernel_rfl) (of_decide_eq_true (by kernel_rfl)) k1 bel lt1) (trodAll_cons_mk (Below.trod laidOut (by kernel_rfl) (of_decide_eq_true (by kernel_rfl)) k2 bel lt2) trodAll_mk0))), rfl, bel.frame _, fun h => by cases h⟩
theorem over : Rows.gliderSwarmRow.holds Try.pinned (OpenSpec.ofChange Rows.gliderSwarmSpec) :=
  OpenClaim.holds_of_wide 9 Try.f9 rfl rfl rfl rfl rfl rfl rfl ⟨rfl, rfl, rfl, rfl, rfl⟩ rfl rfl rfl rfl rfl (by kernel_rfl) Try.func9 (by kernel_rfl)
    (of_decide_eq_true (by kernel_rfl)) (by unfold Func.isWrapper; first | (rw [if_pos (by decide +kernel)]; kernel_rfl) | (rw [if_neg (by decide +kernel)]; exact ⟨rfl, rfl⟩))
    (fun os started H enc _ => lifted os started H enc)
theorem proved : Rows.GliderSwarmSaid := over
#print axioms proved
end Go.Proofs.Ytmhaiihjfgfaoaa.gliderSwarm
namespace Go.Proofs.Ytmhaiihjfgfaoaa
/-- The row, under a short name, for the claim. -/
theorem gliderSwarm_holds : Rows.GliderSwarmSaid := gliderSwarm.proved
end Go.Proofs.Ytmhaiihjfgfaoaa
