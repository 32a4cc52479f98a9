/- Part 1 of the proof of ClockSlow: what the functions compute. No condition. -/
import Derived.Test.YtcjdhajdoikojaaDha7
import Derived.Test.YtcjdhajdoikojaaDha1
section
/- The law ClockSlow as its row asks for it. -/
namespace Go.Proofs.Ytcjdhajdoikojaa.Hand
open Go.RowKit Go.Proofs.YtcjdhajdoikojaaW.PrintWords Go.Proofs.YtcjdhajdoikojaaW.PrintLast Go.Proofs.YtcjdhajdoikojaaW.PrintMore Go.Proofs.Ytcjdhajdoikojaa.Pr Go.Proofs.Ytcjdhajdoikojaa.Good Go.Proofs.Ytcjdhajdoikojaa.Clk
theorem wf_u32 {x : Int} (h : (Lit.int .u32 x).wf = true) : 0 ≤ x ∧ x ≤ 4294967295 := by
  unfold Lit.wf at h
  simp only [Bool.and_eq_true, decide_eq_true_eq] at h
  exact ⟨h.1, h.2⟩
theorem clockSlow_row (par rate : Int) (A : Option Addr) (c : Nat) (xs : List S46) (t later : Int) (_g0 : W30 ⟨par, rate, xs⟩) (_w1 : (Lit.int .i64 t).wf = true) (w2 : (Lit.int .u32 later).wf = true) (w : World) (hC : Kd.C k46 w A xs.length xs) (hc : xs.length ≤ c) :
    Calls Try.prog 5 #[.agg #[.int .i64 par, .int .i64 rate, .slice A xs.length c], .int .i64 t, .int .u32 later] w (RetB (.bool true) w) :=
  slow_walk par rate A c xs t later (wf_u32 w2).1 (wf_u32 w2).2 w hC hc
end Go.Proofs.Ytcjdhajdoikojaa.Hand
end
